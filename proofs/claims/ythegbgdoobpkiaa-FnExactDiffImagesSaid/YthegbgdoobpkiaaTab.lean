/- The tables, the residual functions and lemmas of this seat: parts of the proof of the law; conditions: those that each names. -/
import Derived.Test.YthegbgdoobpkiaaEng4
import Derived.KernelRfl
import Derived.Test.YthegbgdoobpkiaaProg
set_option maxRecDepth 100000
namespace Go.Proofs.Ythegbgdoobpkiaa
open Go.Eng
abbrev DerrorAddressString : Type := (ByteArray × Int)
abbrev DWrite : Type := (Int × ByteArray)
abbrev DAclEntry : Type := (Int × (Int × Int))
abbrev DStep : Type := (Bool × DWrite)
abbrev Dl01Cur : Type := ((List Int) × (Int × Int))
abbrev DboundsError : Type := (Int × (Int × (Bool × Int)))
abbrev DDisk : Type := ((List ByteArray) × (List DWrite))
abbrev DCall : Type := (Int × (Int × (ByteArray × (ByteArray × (Int × (Int × (Int × (ByteArray × ((List DAclEntry) × (List DAclEntry))))))))))
abbrev DEvent : Type := (Int × (DCall × (Int × ((List Bool) × Int))))
abbrev TerrorAddressStringk : Ty := (.pair .str (.int .u64))
abbrev TWritek : Ty := (.pair (.int .i64) .str)
abbrev TStepk : Ty := (.pair .bool TWritek)
abbrev TAclEntryk : Ty := (.pair (.int .i64) (.pair (.int .i64) (.int .i64)))
abbrev TDisko : Ty := (.pair (.list true .str) (.list true TWritek))
abbrev Tl01Curo : Ty := (.pair (.list true (.int .u8)) (.pair (.int .i64) (.int .i64)))
abbrev TboundsErrork : Ty := (.pair (.int .i64) (.pair (.int .i64) (.pair .bool (.int .u8))))
abbrev Tl01Curk : Ty := (.pair (.list false (.int .u8)) (.pair (.int .i64) (.int .i64)))
abbrev TDiskk : Ty := (.pair (.list false .str) (.list false TWritek))
abbrev TCallo : Ty := (.pair (.int .i64) (.pair (.int .i64) (.pair .str (.pair .str (.pair (.int .i64) (.pair (.int .i64) (.pair (.int .i64) (.pair .str (.pair (.list true TAclEntryk) (.list true TAclEntryk))))))))))
abbrev TCallk : Ty := (.pair (.int .i64) (.pair (.int .i64) (.pair .str (.pair .str (.pair (.int .i64) (.pair (.int .i64) (.pair (.int .i64) (.pair .str (.pair (.list false TAclEntryk) (.list false TAclEntryk))))))))))
abbrev TEvento : Ty := (.pair (.int .i64) (.pair TCallo (.pair (.int .i64) (.pair (.list true .bool) (.int .i64)))))
abbrev TEventk : Ty := (.pair (.int .i64) (.pair TCallk (.pair (.int .i64) (.pair (.list false .bool) (.int .i64)))))
abbrev s_laws_FnExactDiffImages : Sig := ⟨[.val (.list false .str), .val (.list false .str)], [.bool], none⟩
abbrev s_laws_FnExactCountCrashes : Sig := ⟨[.val (.list false TEventk)], [.bool], none⟩
abbrev s_laws_szStringS : Sig := ⟨[.val (.list false .str), .val (.int .i64)], [(.int .i64)], none⟩
abbrev s_spec_DiffImages : Sig := ⟨[.val (.list false .str), .val (.list false .str)], [(.list true TWritek)], none⟩
abbrev s_laws_toStringS : Sig := ⟨[.val (.list false .str)], [(.list true .str)], none⟩
abbrev s_impl_DiffImages : Sig := ⟨[.val (.list false .str), .val (.list false .str)], [(.list true TWritek)], none⟩
abbrev s_laws_eqWriteS : Sig := ⟨[.val (.list false TWritek), .val (.list false TWritek)], [.bool], none⟩
abbrev s_laws_eqStringS : Sig := ⟨[.val (.list false .str), .val (.list false .str)], [.bool], none⟩
abbrev s_laws_markStringS : Sig := ⟨[.val (.int .i64)], [(.int .i64)], some (false, (.list true .str))⟩
abbrev s_laws_markWriteS : Sig := ⟨[.val (.int .i64)], [(.int .i64)], some (false, (.list true TWritek))⟩
abbrev s_laws_heldWriteS : Sig := ⟨[.val (.list false TWritek), .val (.int .i64)], [(.int .i64)], none⟩
abbrev s_laws_szEventS : Sig := ⟨[.val (.list false TEventk), .val (.int .i64)], [(.int .i64)], none⟩
abbrev s_spec_CountCrashes : Sig := ⟨[.val (.list false TEventk)], [(.int .i64)], none⟩
abbrev s_laws_toEventS : Sig := ⟨[.val (.list false TEventk)], [(.list true TEvento)], none⟩
abbrev s_impl_CountCrashes : Sig := ⟨[.val (.list false TEventk)], [(.int .i64)], none⟩
abbrev s_laws_eqEventS : Sig := ⟨[.val (.list false TEventk), .val (.list false TEventk)], [.bool], none⟩
abbrev s_spec_l01In : Sig := ⟨[.val (.int .i64), .val (.int .i64), .val (.int .i64)], [.bool], none⟩
abbrev s_laws_eqWrite : Sig := ⟨[.val TWritek, .val TWritek], [.bool], none⟩
abbrev s_laws_markText : Sig := ⟨[.val (.int .i64)], [.str], none⟩
abbrev s_laws_szEvent : Sig := ⟨[.val TEventk, .val (.int .i64)], [(.int .i64)], none⟩
abbrev s_laws_toEvent : Sig := ⟨[.val TEventk], [TEvento], none⟩
abbrev s_laws_eqEvent : Sig := ⟨[.val TEventk, .val TEventk], [.bool], none⟩
abbrev s_laws_szCall : Sig := ⟨[.val TCallk, .val (.int .i64)], [(.int .i64)], none⟩
abbrev s_laws_szBoolS : Sig := ⟨[.val (.list false .bool), .val (.int .i64)], [(.int .i64)], none⟩
abbrev s_laws_toCall : Sig := ⟨[.val TCallk], [TCallo], none⟩
abbrev s_laws_toBoolS : Sig := ⟨[.val (.list false .bool)], [(.list true .bool)], none⟩
abbrev s_laws_eqCall : Sig := ⟨[.val TCallk, .val TCallk], [.bool], none⟩
abbrev s_laws_eqBoolS : Sig := ⟨[.val (.list false .bool), .val (.list false .bool)], [.bool], none⟩
abbrev s_laws_szAclEntryS : Sig := ⟨[.val (.list false TAclEntryk), .val (.int .i64)], [(.int .i64)], none⟩
abbrev s_laws_toAclEntryS : Sig := ⟨[.val (.list false TAclEntryk)], [(.list true TAclEntryk)], none⟩
abbrev s_laws_eqAclEntryS : Sig := ⟨[.val (.list false TAclEntryk), .val (.list false TAclEntryk)], [.bool], none⟩
abbrev s_laws_toAclEntry : Sig := ⟨[.val TAclEntryk], [TAclEntryk], none⟩
abbrev s_laws_eqAclEntry : Sig := ⟨[.val TAclEntryk, .val TAclEntryk], [.bool], none⟩
noncomputable def exts : List ExtE := []
noncomputable def tab : Tab := {
  ty := [(3, (.int .i64)), (4, .bool), (5, (.int .u8)), (9, .str), (25, (.list false .str)), (27, (.list false TWritek)), (33, (.list false TEventk)), (36, (.list false TEventk)), (40, (.list false (.int .u8))), (59, (.list false .bool)), (70, TWritek), (74, (.list false TAclEntryk)), (76, TCallk), (78, TEventk), (79, (.list false TAclEntryk)), (81, TCallk), (83, TEventk), (147, TAclEntryk), (149, TAclEntryk)],
  nf := [(70, 2), (76, 10), (78, 5), (81, 10), (83, 5), (147, 3), (149, 3)],
  el := [(25, 9, 16), (27, 70, 24), (36, 83, 184), (59, 4, 1), (79, 147, 24)],
  fnT := [1],
  eqs := [70, 147, 149],
  sig := [(4, s_laws_FnExactDiffImages), (5, s_laws_FnExactCountCrashes), (10, s_laws_szStringS), (11, s_spec_DiffImages), (12, s_laws_toStringS), (13, s_impl_DiffImages), (14, s_laws_eqWriteS), (15, s_laws_eqStringS), (16, s_laws_markStringS), (17, s_laws_markWriteS), (18, s_laws_heldWriteS), (19, s_laws_szEventS), (20, s_spec_CountCrashes), (21, s_laws_toEventS), (22, s_impl_CountCrashes), (23, s_laws_eqEventS), (45, s_spec_l01In), (46, s_laws_eqWrite), (47, s_laws_markText), (48, s_laws_szEvent), (49, s_laws_toEvent), (50, s_laws_eqEvent), (75, s_laws_szCall), (76, s_laws_szBoolS), (77, s_laws_toCall), (78, s_laws_toBoolS), (79, s_laws_eqCall), (80, s_laws_eqBoolS), (99, s_laws_szAclEntryS), (100, s_laws_toAclEntryS), (101, s_laws_eqAclEntryS), (108, s_laws_toAclEntry), (109, s_laws_eqAclEntry)],
  body := [(4, Try.f4), (5, Try.f5), (10, Try.f10), (11, Try.f11), (12, Try.f12), (13, Try.f13), (14, Try.f14), (15, Try.f15), (16, Try.f16), (17, Try.f17), (18, Try.f18), (19, Try.f19), (20, Try.f20), (21, Try.f21), (22, Try.f22), (23, Try.f23), (45, Try.f45), (46, Try.f46), (47, Try.f47), (48, Try.f48), (49, Try.f49), (50, Try.f50), (75, Try.f75), (76, Try.f76), (77, Try.f77), (78, Try.f78), (79, Try.f79), (80, Try.f80), (99, Try.f99), (100, Try.f100), (101, Try.f101), (108, Try.f108), (109, Try.f109)] }
noncomputable def E1 : Env := tab.env (extOf exts)
noncomputable def H1 : Nat → Hints := fun f => (Eng.look [(10, ⟨fun r => (Eng.look [(5, [(0, none), (1, none), (5, none)])] r).getD [], fun r => Eng.look [] r⟩),
  (11, ⟨fun r => (Eng.look [(5, [(0, none), (5, none), (17, none), (18, none), (19, none)])] r).getD [], fun r => Eng.look [] r⟩),
  (12, ⟨fun r => (Eng.look [(3, [(0, none), (3, none), (4, none)])] r).getD [], fun r => Eng.look [] r⟩),
  (13, ⟨fun r => (Eng.look [(5, [(0, none), (5, none), (17, none), (18, none), (19, none)])] r).getD [], fun r => Eng.look [] r⟩),
  (14, ⟨fun r => (Eng.look [(4, [(0, none), (1, none), (5, none)])] r).getD [], fun r => Eng.look [] r⟩),
  (15, ⟨fun r => (Eng.look [(4, [(0, none), (1, none), (5, none)])] r).getD [], fun r => Eng.look [] r⟩),
  (16, ⟨fun r => (Eng.look [(2, [(0, none), (1, none), (5, none)])] r).getD [], fun r => Eng.look [] r⟩),
  (17, ⟨fun r => (Eng.look [(2, [(0, none), (1, none), (5, none)])] r).getD [], fun r => Eng.look [] r⟩),
  (18, ⟨fun r => (Eng.look [(2, [(0, none), (1, none), (5, none)])] r).getD [], fun r => Eng.look [] r⟩),
  (19, ⟨fun r => (Eng.look [(5, [(0, none), (1, none), (5, none)])] r).getD [], fun r => Eng.look [] r⟩),
  (20, ⟨fun r => (Eng.look [(3, [(3, none), (6, none), (7, none), (8, none)])] r).getD [], fun r => Eng.look [] r⟩),
  (21, ⟨fun r => (Eng.look [(3, [(0, none), (3, none), (4, none)])] r).getD [], fun r => Eng.look [] r⟩),
  (22, ⟨fun r => (Eng.look [(3, [(3, none), (6, none), (7, none), (8, none)])] r).getD [], fun r => Eng.look [] r⟩),
  (23, ⟨fun r => (Eng.look [(4, [(0, none), (1, none), (5, none)])] r).getD [], fun r => Eng.look [] r⟩),
  (47, ⟨fun r => (Eng.look [(4, [(0, none), (3, none)])] r).getD [], fun r => Eng.look [] r⟩),
  (78, ⟨fun r => (Eng.look [(3, [(0, none), (3, none), (4, none)])] r).getD [], fun r => Eng.look [] r⟩),
  (80, ⟨fun r => (Eng.look [(4, [(0, none), (1, none), (5, none)])] r).getD [], fun r => Eng.look [] r⟩),
  (100, ⟨fun r => (Eng.look [(3, [(0, none), (3, none), (4, none)])] r).getD [], fun r => Eng.look [] r⟩),
  (101, ⟨fun r => (Eng.look [(4, [(0, none), (1, none), (5, none)])] r).getD [], fun r => Eng.look [] r⟩)] f).getD ⟨fun _ => [], fun _ => none⟩
noncomputable def c_laws_FnExactDiffImages (k : Nat) (x : ((List ByteArray) × (List ByteArray))) : Option Bool := runF E1 H1 k 4 s_laws_FnExactDiffImages x
noncomputable def c_laws_FnExactCountCrashes (k : Nat) (x : (List DEvent)) : Option Bool := runF E1 H1 k 5 s_laws_FnExactCountCrashes x
noncomputable def c_laws_szStringS (k : Nat) (x : ((List ByteArray) × Int)) : Option Int := runF E1 H1 k 10 s_laws_szStringS x
noncomputable def c_spec_DiffImages (k : Nat) (x : ((List ByteArray) × (List ByteArray))) : Option (List DWrite) := runF E1 H1 k 11 s_spec_DiffImages x
noncomputable def c_laws_toStringS (k : Nat) (x : (List ByteArray)) : Option (List ByteArray) := runF E1 H1 k 12 s_laws_toStringS x
noncomputable def c_impl_DiffImages (k : Nat) (x : ((List ByteArray) × (List ByteArray))) : Option (List DWrite) := runF E1 H1 k 13 s_impl_DiffImages x
noncomputable def c_laws_eqWriteS (k : Nat) (x : ((List DWrite) × (List DWrite))) : Option Bool := runF E1 H1 k 14 s_laws_eqWriteS x
noncomputable def c_laws_eqStringS (k : Nat) (x : ((List ByteArray) × (List ByteArray))) : Option Bool := runF E1 H1 k 15 s_laws_eqStringS x
noncomputable def c_laws_markStringS (k : Nat) (x : ((List ByteArray) × Int)) : Option (Int × (List ByteArray)) := runF E1 H1 k 16 s_laws_markStringS x
noncomputable def c_laws_markWriteS (k : Nat) (x : ((List DWrite) × Int)) : Option (Int × (List DWrite)) := runF E1 H1 k 17 s_laws_markWriteS x
noncomputable def c_laws_heldWriteS (k : Nat) (x : ((List DWrite) × Int)) : Option Int := runF E1 H1 k 18 s_laws_heldWriteS x
noncomputable def c_laws_szEventS (k : Nat) (x : ((List DEvent) × Int)) : Option Int := runF E1 H1 k 19 s_laws_szEventS x
noncomputable def c_spec_CountCrashes (k : Nat) (x : (List DEvent)) : Option Int := runF E1 H1 k 20 s_spec_CountCrashes x
noncomputable def c_laws_toEventS (k : Nat) (x : (List DEvent)) : Option (List DEvent) := runF E1 H1 k 21 s_laws_toEventS x
noncomputable def c_impl_CountCrashes (k : Nat) (x : (List DEvent)) : Option Int := runF E1 H1 k 22 s_impl_CountCrashes x
noncomputable def c_laws_eqEventS (k : Nat) (x : ((List DEvent) × (List DEvent))) : Option Bool := runF E1 H1 k 23 s_laws_eqEventS x
noncomputable def c_spec_l01In (k : Nat) (x : DAclEntry) : Option Bool := runF E1 H1 k 45 s_spec_l01In x
noncomputable def c_laws_eqWrite (k : Nat) (x : (DWrite × DWrite)) : Option Bool := runF E1 H1 k 46 s_laws_eqWrite x
noncomputable def c_laws_markText (k : Nat) (x : Int) : Option ByteArray := runF E1 H1 k 47 s_laws_markText x
noncomputable def c_laws_szEvent (k : Nat) (x : (DEvent × Int)) : Option Int := runF E1 H1 k 48 s_laws_szEvent x
noncomputable def c_laws_toEvent (k : Nat) (x : DEvent) : Option DEvent := runF E1 H1 k 49 s_laws_toEvent x
noncomputable def c_laws_eqEvent (k : Nat) (x : (DEvent × DEvent)) : Option Bool := runF E1 H1 k 50 s_laws_eqEvent x
noncomputable def c_laws_szCall (k : Nat) (x : (DCall × Int)) : Option Int := runF E1 H1 k 75 s_laws_szCall x
noncomputable def c_laws_szBoolS (k : Nat) (x : ((List Bool) × Int)) : Option Int := runF E1 H1 k 76 s_laws_szBoolS x
noncomputable def c_laws_toCall (k : Nat) (x : DCall) : Option DCall := runF E1 H1 k 77 s_laws_toCall x
noncomputable def c_laws_toBoolS (k : Nat) (x : (List Bool)) : Option (List Bool) := runF E1 H1 k 78 s_laws_toBoolS x
noncomputable def c_laws_eqCall (k : Nat) (x : (DCall × DCall)) : Option Bool := runF E1 H1 k 79 s_laws_eqCall x
noncomputable def c_laws_eqBoolS (k : Nat) (x : ((List Bool) × (List Bool))) : Option Bool := runF E1 H1 k 80 s_laws_eqBoolS x
noncomputable def c_laws_szAclEntryS (k : Nat) (x : ((List DAclEntry) × Int)) : Option Int := runF E1 H1 k 99 s_laws_szAclEntryS x
noncomputable def c_laws_toAclEntryS (k : Nat) (x : (List DAclEntry)) : Option (List DAclEntry) := runF E1 H1 k 100 s_laws_toAclEntryS x
noncomputable def c_laws_eqAclEntryS (k : Nat) (x : ((List DAclEntry) × (List DAclEntry))) : Option Bool := runF E1 H1 k 101 s_laws_eqAclEntryS x
noncomputable def c_laws_toAclEntry (k : Nat) (x : DAclEntry) : Option DAclEntry := runF E1 H1 k 108 s_laws_toAclEntry x
noncomputable def c_laws_eqAclEntry (k : Nat) (x : (DAclEntry × DAclEntry)) : Option Bool := runF E1 H1 k 109 s_laws_eqAclEntry x
end Go.Proofs.Ythegbgdoobpkiaa
