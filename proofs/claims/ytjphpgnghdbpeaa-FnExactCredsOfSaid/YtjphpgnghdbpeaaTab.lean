/- The tables, the residual functions and lemmas of this seat: parts of the proof of the law; conditions: those that each names. -/
import Derived.Test.YtjphpgnghdbpeaaEng4
import Derived.KernelRfl
import Derived.Test.YtjphpgnghdbpeaaProg
set_option maxRecDepth 100000
namespace Go.Proofs.Ytjphpgnghdbpeaa
open Go.Eng
abbrev DQuota : Type := (Int × Int)
abbrev DerrorAddressString : Type := (ByteArray × Int)
abbrev DWrite : Type := (Int × ByteArray)
abbrev DOpen : Type := (Int × DQuota)
abbrev DCred : Type := (Int × (Int × (List Int)))
abbrev DStep : Type := (Bool × DWrite)
abbrev DboundsError : Type := (Int × (Int × (Bool × Int)))
abbrev DDisk : Type := ((List ByteArray) × (List DWrite))
abbrev DProc : Type := (DCred × (List DOpen))
abbrev DInode : Type := (Int × (Int × (Int × (Int × (Int × (Int × (Int × ((List Int) × ((List DOpen) × (List DOpen))))))))))
abbrev DFS : Type := (Int × ((List DQuota) × ((List DInode) × (List ByteArray))))
abbrev DSystem : Type := (DFS × (List DProc))
abbrev TerrorAddressStringk : Ty := (.pair .str (.int .u64))
abbrev TWritek : Ty := (.pair (.int .i64) .str)
abbrev TQuotak : Ty := (.pair (.int .i64) (.int .i64))
abbrev TStepk : Ty := (.pair .bool TWritek)
abbrev TOpenk : Ty := (.pair (.int .i64) TQuotak)
abbrev TDisko : Ty := (.pair (.list true .str) (.list true TWritek))
abbrev TboundsErrork : Ty := (.pair (.int .i64) (.pair (.int .i64) (.pair .bool (.int .u8))))
abbrev TCredo : Ty := (.pair (.int .i64) (.pair (.int .i64) (.list true (.int .i64))))
abbrev TDiskk : Ty := (.pair (.list false .str) (.list false TWritek))
abbrev TCredk : Ty := (.pair (.int .i64) (.pair (.int .i64) (.list false (.int .i64))))
abbrev TProco : Ty := (.pair TCredo (.list true TOpenk))
abbrev TProck : Ty := (.pair TCredk (.list false TOpenk))
abbrev TInodeo : Ty := (.pair (.int .i64) (.pair (.int .i64) (.pair (.int .i64) (.pair (.int .i64) (.pair (.int .i64) (.pair (.int .i64) (.pair (.int .i64) (.pair (.list true (.int .i64)) (.pair (.list true TOpenk) (.list true TOpenk))))))))))
abbrev TInodek : Ty := (.pair (.int .i64) (.pair (.int .i64) (.pair (.int .i64) (.pair (.int .i64) (.pair (.int .i64) (.pair (.int .i64) (.pair (.int .i64) (.pair (.list false (.int .i64)) (.pair (.list false TOpenk) (.list false TOpenk))))))))))
abbrev TFSo : Ty := (.pair (.int .i64) (.pair (.list true TQuotak) (.pair (.list true TInodeo) (.list true .str))))
abbrev TFSk : Ty := (.pair (.int .i64) (.pair (.list false TQuotak) (.pair (.list false TInodek) (.list false .str))))
abbrev TSystemo : Ty := (.pair TFSo (.list true TProco))
abbrev TSystemk : Ty := (.pair TFSk (.list false TProck))
abbrev s_laws_FnExactCredsOf : Sig := ⟨[.val TSystemk], [.bool], none⟩
abbrev s_laws_szSystem : Sig := ⟨[.val TSystemk, .val (.int .i64)], [(.int .i64)], none⟩
abbrev s_spec_CredsOf : Sig := ⟨[.val TSystemk], [(.list true TCredo)], none⟩
abbrev s_laws_toSystem : Sig := ⟨[.val TSystemk], [TSystemo], none⟩
abbrev s_impl_CredsOf : Sig := ⟨[.val TSystemk], [(.list true TCredo)], none⟩
abbrev s_laws_eqCredS : Sig := ⟨[.val (.list false TCredk), .val (.list false TCredk)], [.bool], none⟩
abbrev s_laws_eqSystem : Sig := ⟨[.val TSystemk, .val TSystemk], [.bool], none⟩
abbrev s_laws_markSystem : Sig := ⟨[.val TSystemo, .val (.int .i64)], [(.int .i64)], none⟩
abbrev s_laws_markCredS : Sig := ⟨[.val (.int .i64)], [(.int .i64)], some (false, (.list true TCredo))⟩
abbrev s_laws_heldCredS : Sig := ⟨[.val (.list false TCredk), .val (.int .i64)], [(.int .i64)], none⟩
abbrev s_laws_szFS : Sig := ⟨[.val TFSk, .val (.int .i64)], [(.int .i64)], none⟩
abbrev s_laws_toFS : Sig := ⟨[.val TFSk], [TFSo], none⟩
abbrev s_laws_eqIntS : Sig := ⟨[.val (.list false (.int .i64)), .val (.list false (.int .i64))], [.bool], none⟩
abbrev s_laws_eqFS : Sig := ⟨[.val TFSk, .val TFSk], [.bool], none⟩
abbrev s_laws_markFS : Sig := ⟨[.val TFSo, .val (.int .i64)], [(.int .i64)], none⟩
abbrev s_laws_markIntS : Sig := ⟨[.val (.int .i64)], [(.int .i64)], some (false, (.list true (.int .i64)))⟩
abbrev s_laws_heldIntS : Sig := ⟨[.val (.list false (.int .i64)), .val (.int .i64)], [(.int .i64)], none⟩
abbrev s_laws_szProcS : Sig := ⟨[.val (.list false TProck), .val (.int .i64)], [(.int .i64)], none⟩
abbrev s_spec_l06Copy : Sig := ⟨[.val TCredk], [TCredo], none⟩
abbrev s_laws_toProcS : Sig := ⟨[.val (.list false TProck)], [(.list true TProco)], none⟩
abbrev s_impl_copyCred : Sig := ⟨[.val TCredk], [TCredo], none⟩
abbrev s_laws_eqCred : Sig := ⟨[.val TCredk, .val TCredk], [.bool], none⟩
abbrev s_laws_eqProcS : Sig := ⟨[.val (.list false TProck), .val (.list false TProck)], [.bool], none⟩
abbrev s_laws_markProcS : Sig := ⟨[.val (.int .i64)], [(.int .i64)], some (false, (.list true TProco))⟩
abbrev s_laws_szQuotaS : Sig := ⟨[.val (.list false TQuotak), .val (.int .i64)], [(.int .i64)], none⟩
abbrev s_laws_szInodeS : Sig := ⟨[.val (.list false TInodek), .val (.int .i64)], [(.int .i64)], none⟩
abbrev s_laws_szStringS : Sig := ⟨[.val (.list false .str), .val (.int .i64)], [(.int .i64)], none⟩
abbrev s_laws_toQuotaS : Sig := ⟨[.val (.list false TQuotak)], [(.list true TQuotak)], none⟩
abbrev s_laws_toInodeS : Sig := ⟨[.val (.list false TInodek)], [(.list true TInodeo)], none⟩
abbrev s_laws_toStringS : Sig := ⟨[.val (.list false .str)], [(.list true .str)], none⟩
abbrev s_laws_eqQuotaS : Sig := ⟨[.val (.list false TQuotak), .val (.list false TQuotak)], [.bool], none⟩
abbrev s_laws_eqInodeS : Sig := ⟨[.val (.list false TInodek), .val (.list false TInodek)], [.bool], none⟩
abbrev s_laws_eqStringS : Sig := ⟨[.val (.list false .str), .val (.list false .str)], [.bool], none⟩
abbrev s_laws_markQuotaS : Sig := ⟨[.val (.int .i64)], [(.int .i64)], some (false, (.list true TQuotak))⟩
abbrev s_laws_markInodeS : Sig := ⟨[.val (.int .i64)], [(.int .i64)], some (false, (.list true TInodeo))⟩
abbrev s_laws_markStringS : Sig := ⟨[.val (.int .i64)], [(.int .i64)], some (false, (.list true .str))⟩
abbrev s_laws_szProc : Sig := ⟨[.val TProck, .val (.int .i64)], [(.int .i64)], none⟩
abbrev s_laws_toProc : Sig := ⟨[.val TProck], [TProco], none⟩
abbrev s_slices_Clone_int_int : Sig := ⟨[.val (.list false (.int .i64))], [(.list true (.int .i64))], none⟩
abbrev s_laws_eqProc : Sig := ⟨[.val TProck, .val TProck], [.bool], none⟩
abbrev s_laws_markOpenS : Sig := ⟨[.val (.int .i64)], [(.int .i64)], some (false, (.list true TOpenk))⟩
abbrev s_laws_szInode : Sig := ⟨[.val TInodek, .val (.int .i64)], [(.int .i64)], none⟩
abbrev s_laws_toQuota : Sig := ⟨[.val TQuotak], [TQuotak], none⟩
abbrev s_laws_toInode : Sig := ⟨[.val TInodek], [TInodeo], none⟩
abbrev s_laws_eqQuota : Sig := ⟨[.val TQuotak, .val TQuotak], [.bool], none⟩
abbrev s_laws_eqInode : Sig := ⟨[.val TInodek, .val TInodek], [.bool], none⟩
abbrev s_laws_markAclEntryS : Sig := ⟨[.val (.int .i64)], [(.int .i64)], some (false, (.list true TOpenk))⟩
abbrev s_laws_markText : Sig := ⟨[.val (.int .i64)], [.str], none⟩
abbrev s_laws_szCred : Sig := ⟨[.val TCredk, .val (.int .i64)], [(.int .i64)], none⟩
abbrev s_laws_szOpenS : Sig := ⟨[.val (.list false TOpenk), .val (.int .i64)], [(.int .i64)], none⟩
abbrev s_laws_toCred : Sig := ⟨[.val TCredk], [TCredo], none⟩
abbrev s_laws_toOpenS : Sig := ⟨[.val (.list false TOpenk)], [(.list true TOpenk)], none⟩
abbrev s_laws_eqOpenS : Sig := ⟨[.val (.list false TOpenk), .val (.list false TOpenk)], [.bool], none⟩
abbrev s_laws_szIntS : Sig := ⟨[.val (.list false (.int .i64)), .val (.int .i64)], [(.int .i64)], none⟩
abbrev s_laws_szAclEntryS : Sig := ⟨[.val (.list false TOpenk), .val (.int .i64)], [(.int .i64)], none⟩
abbrev s_laws_toIntS : Sig := ⟨[.val (.list false (.int .i64))], [(.list true (.int .i64))], none⟩
abbrev s_laws_toAclEntryS : Sig := ⟨[.val (.list false TOpenk)], [(.list true TOpenk)], none⟩
abbrev s_laws_eqAclEntryS : Sig := ⟨[.val (.list false TOpenk), .val (.list false TOpenk)], [.bool], none⟩
abbrev s_laws_toOpen : Sig := ⟨[.val TOpenk], [TOpenk], none⟩
abbrev s_laws_eqOpen : Sig := ⟨[.val TOpenk, .val TOpenk], [.bool], none⟩
abbrev s_laws_toAclEntry : Sig := ⟨[.val TOpenk], [TOpenk], none⟩
abbrev s_laws_eqAclEntry : Sig := ⟨[.val TOpenk, .val TOpenk], [.bool], none⟩
noncomputable def exts : List ExtE := [⟨77, s_slices_Clone_int_int, ext_slices_Clone_int_int⟩]
noncomputable def tab : Tab := {
  ty := [(3, (.int .i64)), (4, .bool), (5, (.int .u8)), (9, .str), (22, (.list false TQuotak)), (23, (.list false TInodek)), (24, (.list false .str)), (26, TFSk), (27, (.list false TProck)), (29, TSystemk), (31, (.list false TCredk)), (33, (.list false TQuotak)), (34, (.list false TInodek)), (36, TFSk), (37, (.list false TProck)), (39, TSystemk), (47, (.list false (.int .i64))), (75, TCredk), (76, (.list false TOpenk)), (78, TProck), (89, (.list false TOpenk)), (91, TInodek), (110, TCredk), (111, (.list false TOpenk)), (113, TProck), (119, (.list false TOpenk)), (121, TInodek), (124, TQuotak), (130, TQuotak), (166, TOpenk), (173, TOpenk), (174, (.list false (.int .u8))), (184, TOpenk), (188, TOpenk)],
  nf := [(26, 4), (29, 2), (36, 4), (39, 2), (75, 3), (78, 2), (91, 10), (110, 3), (113, 2), (121, 10), (124, 2), (130, 2), (166, 3), (173, 3), (184, 3), (188, 3)],
  el := [(24, 9, 16), (31, 75, 40), (33, 124, 16), (34, 91, 128), (37, 78, 64), (47, 3, 8), (76, 166, 24), (89, 173, 24)],
  fnT := [1],
  eqs := [124, 130, 166, 173, 184, 188],
  sig := [(3, s_laws_FnExactCredsOf), (7, s_laws_szSystem), (8, s_spec_CredsOf), (9, s_laws_toSystem), (10, s_impl_CredsOf), (11, s_laws_eqCredS), (12, s_laws_eqSystem), (13, s_laws_markSystem), (14, s_laws_markCredS), (15, s_laws_heldCredS), (16, s_laws_szFS), (18, s_laws_toFS), (20, s_laws_eqIntS), (21, s_laws_eqFS), (22, s_laws_markFS), (23, s_laws_markIntS), (24, s_laws_heldIntS), (37, s_laws_szProcS), (38, s_spec_l06Copy), (39, s_laws_toProcS), (40, s_impl_copyCred), (41, s_laws_eqCred), (42, s_laws_eqProcS), (43, s_laws_markProcS), (44, s_laws_szQuotaS), (45, s_laws_szInodeS), (46, s_laws_szStringS), (49, s_laws_toQuotaS), (50, s_laws_toInodeS), (51, s_laws_toStringS), (55, s_laws_eqQuotaS), (56, s_laws_eqInodeS), (57, s_laws_eqStringS), (58, s_laws_markQuotaS), (59, s_laws_markInodeS), (60, s_laws_markStringS), (75, s_laws_szProc), (76, s_laws_toProc), (77, s_slices_Clone_int_int), (78, s_laws_eqProc), (79, s_laws_markOpenS), (80, s_laws_szInode), (85, s_laws_toQuota), (86, s_laws_toInode), (90, s_laws_eqQuota), (91, s_laws_eqInode), (92, s_laws_markAclEntryS), (93, s_laws_markText), (116, s_laws_szCred), (117, s_laws_szOpenS), (118, s_laws_toCred), (119, s_laws_toOpenS), (120, s_laws_eqOpenS), (121, s_laws_szIntS), (122, s_laws_szAclEntryS), (129, s_laws_toIntS), (130, s_laws_toAclEntryS), (136, s_laws_eqAclEntryS), (150, s_laws_toOpen), (151, s_laws_eqOpen), (155, s_laws_toAclEntry), (161, s_laws_eqAclEntry)],
  body := [(3, Try.f3), (7, Try.f7), (8, Try.f8), (9, Try.f9), (10, Try.f10), (11, Try.f11), (12, Try.f12), (13, Try.f13), (14, Try.f14), (15, Try.f15), (16, Try.f16), (18, Try.f18), (20, Try.f20), (21, Try.f21), (22, Try.f22), (23, Try.f23), (24, Try.f24), (37, Try.f37), (38, Try.f38), (39, Try.f39), (40, Try.f40), (41, Try.f41), (42, Try.f42), (43, Try.f43), (44, Try.f44), (45, Try.f45), (46, Try.f46), (49, Try.f49), (50, Try.f50), (51, Try.f51), (55, Try.f55), (56, Try.f56), (57, Try.f57), (58, Try.f58), (59, Try.f59), (60, Try.f60), (75, Try.f75), (76, Try.f76), (78, Try.f78), (79, Try.f79), (80, Try.f80), (85, Try.f85), (86, Try.f86), (90, Try.f90), (91, Try.f91), (92, Try.f92), (93, Try.f93), (116, Try.f116), (117, Try.f117), (118, Try.f118), (119, Try.f119), (120, Try.f120), (121, Try.f121), (122, Try.f122), (129, Try.f129), (130, Try.f130), (136, Try.f136), (150, Try.f150), (151, Try.f151), (155, Try.f155), (161, Try.f161)] }
noncomputable def E1 : Env := tab.env (extOf exts)
noncomputable def H1 : Nat → Hints := fun f => (Eng.look [(8, ⟨fun r => (Eng.look [(3, [(3, none), (8, none), (9, none), (10, none)])] r).getD [], fun r => Eng.look [] r⟩),
  (10, ⟨fun r => (Eng.look [(3, [(3, none), (8, none), (9, none), (10, none)])] r).getD [], fun r => Eng.look [] r⟩),
  (11, ⟨fun r => (Eng.look [(4, [(0, none), (1, none), (5, none)])] r).getD [], fun r => Eng.look [] r⟩),
  (14, ⟨fun r => (Eng.look [(2, [(0, none), (1, none), (5, none)])] r).getD [], fun r => Eng.look [] r⟩),
  (15, ⟨fun r => (Eng.look [(2, [(0, none), (1, none), (5, none)])] r).getD [], fun r => Eng.look [] r⟩),
  (20, ⟨fun r => (Eng.look [(4, [(0, none), (1, none), (5, none)])] r).getD [], fun r => Eng.look [] r⟩),
  (23, ⟨fun r => (Eng.look [(2, [(0, none), (1, none), (5, none)])] r).getD [], fun r => Eng.look [] r⟩),
  (24, ⟨fun r => (Eng.look [(2, [(0, none), (1, none), (5, none)])] r).getD [], fun r => Eng.look [] r⟩),
  (37, ⟨fun r => (Eng.look [(5, [(0, none), (1, none), (5, none)])] r).getD [], fun r => Eng.look [] r⟩),
  (39, ⟨fun r => (Eng.look [(3, [(0, none), (3, none), (4, none)])] r).getD [], fun r => Eng.look [] r⟩),
  (42, ⟨fun r => (Eng.look [(4, [(0, none), (1, none), (5, none)])] r).getD [], fun r => Eng.look [] r⟩),
  (43, ⟨fun r => (Eng.look [(2, [(0, none), (1, none), (5, none)])] r).getD [], fun r => Eng.look [] r⟩),
  (45, ⟨fun r => (Eng.look [(5, [(0, none), (1, none), (5, none)])] r).getD [], fun r => Eng.look [] r⟩),
  (46, ⟨fun r => (Eng.look [(5, [(0, none), (1, none), (5, none)])] r).getD [], fun r => Eng.look [] r⟩),
  (49, ⟨fun r => (Eng.look [(3, [(0, none), (3, none), (4, none)])] r).getD [], fun r => Eng.look [] r⟩),
  (50, ⟨fun r => (Eng.look [(3, [(0, none), (3, none), (4, none)])] r).getD [], fun r => Eng.look [] r⟩),
  (51, ⟨fun r => (Eng.look [(3, [(0, none), (3, none), (4, none)])] r).getD [], fun r => Eng.look [] r⟩),
  (55, ⟨fun r => (Eng.look [(4, [(0, none), (1, none), (5, none)])] r).getD [], fun r => Eng.look [] r⟩),
  (56, ⟨fun r => (Eng.look [(4, [(0, none), (1, none), (5, none)])] r).getD [], fun r => Eng.look [] r⟩),
  (57, ⟨fun r => (Eng.look [(4, [(0, none), (1, none), (5, none)])] r).getD [], fun r => Eng.look [] r⟩),
  (58, ⟨fun r => (Eng.look [(2, [(0, none), (1, none), (5, none)])] r).getD [], fun r => Eng.look [] r⟩),
  (59, ⟨fun r => (Eng.look [(2, [(0, none), (1, none), (5, none)])] r).getD [], fun r => Eng.look [] r⟩),
  (60, ⟨fun r => (Eng.look [(2, [(0, none), (1, none), (5, none)])] r).getD [], fun r => Eng.look [] r⟩),
  (79, ⟨fun r => (Eng.look [(2, [(0, none), (1, none), (5, none)])] r).getD [], fun r => Eng.look [] r⟩),
  (92, ⟨fun r => (Eng.look [(2, [(0, none), (1, none), (5, none)])] r).getD [], fun r => Eng.look [] r⟩),
  (93, ⟨fun r => (Eng.look [(4, [(0, none), (3, none)])] r).getD [], fun r => Eng.look [] r⟩),
  (119, ⟨fun r => (Eng.look [(3, [(0, none), (3, none), (4, none)])] r).getD [], fun r => Eng.look [] r⟩),
  (120, ⟨fun r => (Eng.look [(4, [(0, none), (1, none), (5, none)])] r).getD [], fun r => Eng.look [] r⟩),
  (129, ⟨fun r => (Eng.look [(3, [(0, none), (3, none), (4, none)])] r).getD [], fun r => Eng.look [] r⟩),
  (130, ⟨fun r => (Eng.look [(3, [(0, none), (3, none), (4, none)])] r).getD [], fun r => Eng.look [] r⟩),
  (136, ⟨fun r => (Eng.look [(4, [(0, none), (1, none), (5, none)])] r).getD [], fun r => Eng.look [] r⟩)] f).getD ⟨fun _ => [], fun _ => none⟩
noncomputable def c_laws_FnExactCredsOf (k : Nat) (x : DSystem) : Option Bool := runF E1 H1 k 3 s_laws_FnExactCredsOf x
noncomputable def c_laws_szSystem (k : Nat) (x : (DSystem × Int)) : Option Int := runF E1 H1 k 7 s_laws_szSystem x
noncomputable def c_spec_CredsOf (k : Nat) (x : DSystem) : Option (List DCred) := runF E1 H1 k 8 s_spec_CredsOf x
noncomputable def c_laws_toSystem (k : Nat) (x : DSystem) : Option DSystem := runF E1 H1 k 9 s_laws_toSystem x
noncomputable def c_impl_CredsOf (k : Nat) (x : DSystem) : Option (List DCred) := runF E1 H1 k 10 s_impl_CredsOf x
noncomputable def c_laws_eqCredS (k : Nat) (x : ((List DCred) × (List DCred))) : Option Bool := runF E1 H1 k 11 s_laws_eqCredS x
noncomputable def c_laws_eqSystem (k : Nat) (x : (DSystem × DSystem)) : Option Bool := runF E1 H1 k 12 s_laws_eqSystem x
noncomputable def c_laws_markSystem (k : Nat) (x : (DSystem × Int)) : Option Int := runF E1 H1 k 13 s_laws_markSystem x
noncomputable def c_laws_markCredS (k : Nat) (x : ((List DCred) × Int)) : Option (Int × (List DCred)) := runF E1 H1 k 14 s_laws_markCredS x
noncomputable def c_laws_heldCredS (k : Nat) (x : ((List DCred) × Int)) : Option Int := runF E1 H1 k 15 s_laws_heldCredS x
noncomputable def c_laws_szFS (k : Nat) (x : (DFS × Int)) : Option Int := runF E1 H1 k 16 s_laws_szFS x
noncomputable def c_laws_toFS (k : Nat) (x : DFS) : Option DFS := runF E1 H1 k 18 s_laws_toFS x
noncomputable def c_laws_eqIntS (k : Nat) (x : ((List Int) × (List Int))) : Option Bool := runF E1 H1 k 20 s_laws_eqIntS x
noncomputable def c_laws_eqFS (k : Nat) (x : (DFS × DFS)) : Option Bool := runF E1 H1 k 21 s_laws_eqFS x
noncomputable def c_laws_markFS (k : Nat) (x : (DFS × Int)) : Option Int := runF E1 H1 k 22 s_laws_markFS x
noncomputable def c_laws_markIntS (k : Nat) (x : ((List Int) × Int)) : Option (Int × (List Int)) := runF E1 H1 k 23 s_laws_markIntS x
noncomputable def c_laws_heldIntS (k : Nat) (x : ((List Int) × Int)) : Option Int := runF E1 H1 k 24 s_laws_heldIntS x
noncomputable def c_laws_szProcS (k : Nat) (x : ((List DProc) × Int)) : Option Int := runF E1 H1 k 37 s_laws_szProcS x
noncomputable def c_spec_l06Copy (k : Nat) (x : DCred) : Option DCred := runF E1 H1 k 38 s_spec_l06Copy x
noncomputable def c_laws_toProcS (k : Nat) (x : (List DProc)) : Option (List DProc) := runF E1 H1 k 39 s_laws_toProcS x
noncomputable def c_impl_copyCred (k : Nat) (x : DCred) : Option DCred := runF E1 H1 k 40 s_impl_copyCred x
noncomputable def c_laws_eqCred (k : Nat) (x : (DCred × DCred)) : Option Bool := runF E1 H1 k 41 s_laws_eqCred x
noncomputable def c_laws_eqProcS (k : Nat) (x : ((List DProc) × (List DProc))) : Option Bool := runF E1 H1 k 42 s_laws_eqProcS x
noncomputable def c_laws_markProcS (k : Nat) (x : ((List DProc) × Int)) : Option (Int × (List DProc)) := runF E1 H1 k 43 s_laws_markProcS x
noncomputable def c_laws_szQuotaS (k : Nat) (x : ((List DQuota) × Int)) : Option Int := runF E1 H1 k 44 s_laws_szQuotaS x
noncomputable def c_laws_szInodeS (k : Nat) (x : ((List DInode) × Int)) : Option Int := runF E1 H1 k 45 s_laws_szInodeS x
noncomputable def c_laws_szStringS (k : Nat) (x : ((List ByteArray) × Int)) : Option Int := runF E1 H1 k 46 s_laws_szStringS x
noncomputable def c_laws_toQuotaS (k : Nat) (x : (List DQuota)) : Option (List DQuota) := runF E1 H1 k 49 s_laws_toQuotaS x
noncomputable def c_laws_toInodeS (k : Nat) (x : (List DInode)) : Option (List DInode) := runF E1 H1 k 50 s_laws_toInodeS x
noncomputable def c_laws_toStringS (k : Nat) (x : (List ByteArray)) : Option (List ByteArray) := runF E1 H1 k 51 s_laws_toStringS x
noncomputable def c_laws_eqQuotaS (k : Nat) (x : ((List DQuota) × (List DQuota))) : Option Bool := runF E1 H1 k 55 s_laws_eqQuotaS x
noncomputable def c_laws_eqInodeS (k : Nat) (x : ((List DInode) × (List DInode))) : Option Bool := runF E1 H1 k 56 s_laws_eqInodeS x
noncomputable def c_laws_eqStringS (k : Nat) (x : ((List ByteArray) × (List ByteArray))) : Option Bool := runF E1 H1 k 57 s_laws_eqStringS x
noncomputable def c_laws_markQuotaS (k : Nat) (x : ((List DQuota) × Int)) : Option (Int × (List DQuota)) := runF E1 H1 k 58 s_laws_markQuotaS x
noncomputable def c_laws_markInodeS (k : Nat) (x : ((List DInode) × Int)) : Option (Int × (List DInode)) := runF E1 H1 k 59 s_laws_markInodeS x
noncomputable def c_laws_markStringS (k : Nat) (x : ((List ByteArray) × Int)) : Option (Int × (List ByteArray)) := runF E1 H1 k 60 s_laws_markStringS x
noncomputable def c_laws_szProc (k : Nat) (x : (DProc × Int)) : Option Int := runF E1 H1 k 75 s_laws_szProc x
noncomputable def c_laws_toProc (k : Nat) (x : DProc) : Option DProc := runF E1 H1 k 76 s_laws_toProc x
noncomputable def c_slices_Clone_int_int (k : Nat) (x : (List Int)) : Option (List Int) := runF E1 H1 k 77 s_slices_Clone_int_int x
noncomputable def c_laws_eqProc (k : Nat) (x : (DProc × DProc)) : Option Bool := runF E1 H1 k 78 s_laws_eqProc x
noncomputable def c_laws_markOpenS (k : Nat) (x : ((List DOpen) × Int)) : Option (Int × (List DOpen)) := runF E1 H1 k 79 s_laws_markOpenS x
noncomputable def c_laws_szInode (k : Nat) (x : (DInode × Int)) : Option Int := runF E1 H1 k 80 s_laws_szInode x
noncomputable def c_laws_toQuota (k : Nat) (x : DQuota) : Option DQuota := runF E1 H1 k 85 s_laws_toQuota x
noncomputable def c_laws_toInode (k : Nat) (x : DInode) : Option DInode := runF E1 H1 k 86 s_laws_toInode x
noncomputable def c_laws_eqQuota (k : Nat) (x : (DQuota × DQuota)) : Option Bool := runF E1 H1 k 90 s_laws_eqQuota x
noncomputable def c_laws_eqInode (k : Nat) (x : (DInode × DInode)) : Option Bool := runF E1 H1 k 91 s_laws_eqInode x
noncomputable def c_laws_markAclEntryS (k : Nat) (x : ((List DOpen) × Int)) : Option (Int × (List DOpen)) := runF E1 H1 k 92 s_laws_markAclEntryS x
noncomputable def c_laws_markText (k : Nat) (x : Int) : Option ByteArray := runF E1 H1 k 93 s_laws_markText x
noncomputable def c_laws_szCred (k : Nat) (x : (DCred × Int)) : Option Int := runF E1 H1 k 116 s_laws_szCred x
noncomputable def c_laws_szOpenS (k : Nat) (x : ((List DOpen) × Int)) : Option Int := runF E1 H1 k 117 s_laws_szOpenS x
noncomputable def c_laws_toCred (k : Nat) (x : DCred) : Option DCred := runF E1 H1 k 118 s_laws_toCred x
noncomputable def c_laws_toOpenS (k : Nat) (x : (List DOpen)) : Option (List DOpen) := runF E1 H1 k 119 s_laws_toOpenS x
noncomputable def c_laws_eqOpenS (k : Nat) (x : ((List DOpen) × (List DOpen))) : Option Bool := runF E1 H1 k 120 s_laws_eqOpenS x
noncomputable def c_laws_szIntS (k : Nat) (x : ((List Int) × Int)) : Option Int := runF E1 H1 k 121 s_laws_szIntS x
noncomputable def c_laws_szAclEntryS (k : Nat) (x : ((List DOpen) × Int)) : Option Int := runF E1 H1 k 122 s_laws_szAclEntryS x
noncomputable def c_laws_toIntS (k : Nat) (x : (List Int)) : Option (List Int) := runF E1 H1 k 129 s_laws_toIntS x
noncomputable def c_laws_toAclEntryS (k : Nat) (x : (List DOpen)) : Option (List DOpen) := runF E1 H1 k 130 s_laws_toAclEntryS x
noncomputable def c_laws_eqAclEntryS (k : Nat) (x : ((List DOpen) × (List DOpen))) : Option Bool := runF E1 H1 k 136 s_laws_eqAclEntryS x
noncomputable def c_laws_toOpen (k : Nat) (x : DOpen) : Option DOpen := runF E1 H1 k 150 s_laws_toOpen x
noncomputable def c_laws_eqOpen (k : Nat) (x : (DOpen × DOpen)) : Option Bool := runF E1 H1 k 151 s_laws_eqOpen x
noncomputable def c_laws_toAclEntry (k : Nat) (x : DOpen) : Option DOpen := runF E1 H1 k 155 s_laws_toAclEntry x
noncomputable def c_laws_eqAclEntry (k : Nat) (x : (DOpen × DOpen)) : Option Bool := runF E1 H1 k 161 s_laws_eqAclEntry x
theorem c_slices_Clone_int_int_run (k : Nat) (x) : c_slices_Clone_int_int (k + 1) x = ext_slices_Clone_int_int x := by kernel_rfl
end Go.Proofs.Ytjphpgnghdbpeaa
