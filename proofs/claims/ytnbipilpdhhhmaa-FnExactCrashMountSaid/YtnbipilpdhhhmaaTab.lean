/- The tables, the residual functions and lemmas of this seat: parts of the proof of the law; conditions: those that each names. -/
import Derived.Test.YtnbipilpdhhhmaaEng5
import Derived.KernelRfl
import Derived.Test.YtnbipilpdhhhmaaProg
set_option maxRecDepth 100000
namespace Go.Proofs.Ytnbipilpdhhhmaa
open Go.Eng
abbrev DQuota : Type := (Int × Int)
abbrev DerrorAddressString : Type := (ByteArray × Int)
abbrev DWrite : Type := (Int × ByteArray)
abbrev DAclEntry : Type := (Int × DQuota)
abbrev Dl01Cur : Type := ((List Int) × DQuota)
abbrev DStep : Type := (Bool × DWrite)
abbrev DboundsError : Type := (Int × (Int × (Bool × Int)))
abbrev DDisk : Type := ((List ByteArray) × (List DWrite))
abbrev DInode : Type := (Int × (Int × (Int × (Int × (Int × (Int × (Int × ((List Int) × ((List DAclEntry) × (List DAclEntry))))))))))
abbrev DFS : Type := (Int × ((List DQuota) × ((List DInode) × (List ByteArray))))
abbrev TerrorAddressStringk : Ty := (.pair .str (.int .u64))
abbrev TWritek : Ty := (.pair (.int .i64) .str)
abbrev TQuotak : Ty := (.pair (.int .i64) (.int .i64))
abbrev TStepk : Ty := (.pair .bool TWritek)
abbrev TAclEntryk : Ty := (.pair (.int .i64) TQuotak)
abbrev TDisko : Ty := (.pair (.list true .str) (.list true TWritek))
abbrev Tl01Curo : Ty := (.pair (.list true (.int .u8)) TQuotak)
abbrev TboundsErrork : Ty := (.pair (.int .i64) (.pair (.int .i64) (.pair .bool (.int .u8))))
abbrev Tl01Curk : Ty := (.pair (.list false (.int .u8)) TQuotak)
abbrev TDiskk : Ty := (.pair (.list false .str) (.list false TWritek))
abbrev TInodeo : Ty := (.pair (.int .i64) (.pair (.int .i64) (.pair (.int .i64) (.pair (.int .i64) (.pair (.int .i64) (.pair (.int .i64) (.pair (.int .i64) (.pair (.list true (.int .i64)) (.pair (.list true TAclEntryk) (.list true TAclEntryk))))))))))
abbrev TInodek : Ty := (.pair (.int .i64) (.pair (.int .i64) (.pair (.int .i64) (.pair (.int .i64) (.pair (.int .i64) (.pair (.int .i64) (.pair (.int .i64) (.pair (.list false (.int .i64)) (.pair (.list false TAclEntryk) (.list false TAclEntryk))))))))))
abbrev TFSo : Ty := (.pair (.int .i64) (.pair (.list true TQuotak) (.pair (.list true TInodeo) (.list true .str))))
abbrev TFSk : Ty := (.pair (.int .i64) (.pair (.list false TQuotak) (.pair (.list false TInodek) (.list false .str))))
abbrev s_laws_FnExactCrashMount : Sig := ⟨[.val TDiskk, .val (.int .i64), .val (.list false .bool)], [.bool], none⟩
abbrev s_laws_szDisk : Sig := ⟨[.val TDiskk, .val (.int .i64)], [(.int .i64)], none⟩
abbrev s_spec_CrashMount : Sig := ⟨[.val TDiskk, .val (.int .i64), .val (.list false .bool)], [TDisko], none⟩
abbrev s_laws_toDisk : Sig := ⟨[.val TDiskk], [TDisko], none⟩
abbrev s_laws_toBoolS : Sig := ⟨[.val (.list false .bool)], [(.list true .bool)], none⟩
abbrev s_impl_CrashMount : Sig := ⟨[.val TDiskk, .val (.int .i64), .val (.list false .bool)], [TDisko], none⟩
abbrev s_laws_eqDisk : Sig := ⟨[.val TDiskk, .val TDiskk], [.bool], none⟩
abbrev s_laws_eqBoolS : Sig := ⟨[.val (.list false .bool), .val (.list false .bool)], [.bool], none⟩
abbrev s_laws_markBoolS : Sig := ⟨[.val (.int .i64)], [(.int .i64)], some (false, (.list true .bool))⟩
abbrev s_laws_heldDisk : Sig := ⟨[.val TDiskk, .val (.int .i64)], [(.int .i64)], none⟩
abbrev s_laws_szStringS : Sig := ⟨[.val (.list false .str), .val (.int .i64)], [(.int .i64)], none⟩
abbrev s_laws_toStringS : Sig := ⟨[.val (.list false .str)], [(.list true .str)], none⟩
abbrev s_laws_eqStringS : Sig := ⟨[.val (.list false .str), .val (.list false .str)], [.bool], none⟩
abbrev s_laws_markStringS : Sig := ⟨[.val (.int .i64)], [(.int .i64)], some (false, (.list true .str))⟩
abbrev s_laws_szWriteS : Sig := ⟨[.val (.list false TWritek), .val (.int .i64)], [(.int .i64)], none⟩
abbrev s_spec_CrashDisk : Sig := ⟨[.val TDiskk, .val (.list false .bool)], [TDisko], none⟩
abbrev s_spec_RunSteps : Sig := ⟨[.val TDiskk, .val (.list false TStepk), .val (.int .i64)], [TDisko], none⟩
abbrev s_spec_RecoverySteps : Sig := ⟨[.val TDiskk], [(.list true TStepk)], none⟩
abbrev s_laws_toWriteS : Sig := ⟨[.val (.list false TWritek)], [(.list true TWritek)], none⟩
abbrev s_impl_CrashDisk : Sig := ⟨[.val TDiskk, .val (.list false .bool)], [TDisko], none⟩
abbrev s_impl_RunSteps : Sig := ⟨[.val TDiskk, .val (.list false TStepk), .val (.int .i64)], [TDisko], none⟩
abbrev s_impl_RecoverySteps : Sig := ⟨[.val TDiskk], [(.list true TStepk)], none⟩
abbrev s_laws_eqWriteS : Sig := ⟨[.val (.list false TWritek), .val (.list false TWritek)], [.bool], none⟩
abbrev s_laws_markWriteS : Sig := ⟨[.val (.int .i64)], [(.int .i64)], some (false, (.list true TWritek))⟩
abbrev s_laws_heldStringS : Sig := ⟨[.val (.list false .str), .val (.int .i64)], [(.int .i64)], none⟩
abbrev s_laws_heldWriteS : Sig := ⟨[.val (.list false TWritek), .val (.int .i64)], [(.int .i64)], none⟩
abbrev s_spec_l01In : Sig := ⟨[.val (.int .i64), .val (.int .i64), .val (.int .i64)], [.bool], none⟩
abbrev s_laws_markText : Sig := ⟨[.val (.int .i64)], [.str], none⟩
abbrev s_laws_szWrite : Sig := ⟨[.val TWritek, .val (.int .i64)], [(.int .i64)], none⟩
abbrev s_spec_IsDisk : Sig := ⟨[.val TDiskk], [.bool], none⟩
abbrev s_spec_l03Copy : Sig := ⟨[.val TDiskk], [TDisko], none⟩
abbrev s_spec_l03Store : Sig := ⟨[.val TDiskk, .val (.list false .bool), .val .bool], [TDisko], none⟩
abbrev s_spec_FlushDisk : Sig := ⟨[.val TDiskk], [TDisko], none⟩
abbrev s_spec_WriteSector : Sig := ⟨[.val TDiskk, .val (.int .i64), .val .str], [TDisko, .bool], none⟩
abbrev s_spec_ReadJournal : Sig := ⟨[.val TDiskk], [(.int .i64), (.list true TWritek), .bool], none⟩
abbrev s_spec_l04Clear : Sig := ⟨[], [(.list true TStepk)], none⟩
abbrev s_laws_toWrite : Sig := ⟨[.val TWritek], [TWritek], none⟩
abbrev s_impl_copyDisk : Sig := ⟨[.val TDiskk], [TDisko], none⟩
abbrev s_impl_IsDisk : Sig := ⟨[.val TDiskk], [.bool], none⟩
abbrev s_impl_all : Sig := ⟨[.val (.int .i64)], [.bool], none⟩
abbrev s_impl_Disk_write : Sig := ⟨[.val (.int .i64), .val .str], [.bool], some (true, TDisko)⟩
abbrev s_impl_ReadJournal : Sig := ⟨[.val TDiskk], [(.int .i64), (.list true TWritek), .bool], none⟩
abbrev s_impl_installSteps : Sig := ⟨[.val (.list false TWritek)], [(.list true TStepk)], none⟩
abbrev s_laws_eqWrite : Sig := ⟨[.val TWritek, .val TWritek], [.bool], none⟩
abbrev s_spec_PutNumber : Sig := ⟨[.val (.int .i64), .val (.int .i64)], [.str], none⟩
abbrev s_spec_PadTo : Sig := ⟨[.val .str, .val (.int .i64)], [.str], none⟩
abbrev s_impl_PutNumber : Sig := ⟨[.val (.int .i64), .val (.int .i64)], [.str], none⟩
abbrev s_impl_PadTo : Sig := ⟨[.val .str, .val (.int .i64)], [.str], none⟩
abbrev s_spec_l03Read : Sig := ⟨[.val TDiskk, .val (.int .i64)], [.str], none⟩
abbrev s_spec_GetNumber : Sig := ⟨[.val .str, .val (.int .i64), .val (.int .i64)], [(.int .i64), .bool], none⟩
abbrev s_spec_IsTxn : Sig := ⟨[.val TDiskk, .val (.list false TWritek)], [.bool], none⟩
abbrev s_spec_CommitSector : Sig := ⟨[.val (.int .i64), .val (.list false TWritek)], [.str], none⟩
abbrev s_slices_Clone_string_string : Sig := ⟨[.val (.list false .str)], [(.list true .str)], none⟩
abbrev s_slices_Clone_impl_Write_impl_Write : Sig := ⟨[.val (.list false TWritek)], [(.list true TWritek)], none⟩
abbrev s_impl_Disk_read : Sig := ⟨[.val (.ptr TDiskk), .val (.int .i64)], [.str], none⟩
abbrev s_impl_GetNumber : Sig := ⟨[.val .str, .val (.int .i64), .val (.int .i64)], [(.int .i64), .bool], none⟩
abbrev s_impl_CommitSector : Sig := ⟨[.val (.int .i64), .val (.list false TWritek)], [.str], none⟩
abbrev s_impl_IsTxn : Sig := ⟨[.val TDiskk, .val (.list false TWritek)], [.bool], none⟩
abbrev s_impl_writeSteps : Sig := ⟨[.val (.list false TWritek)], [(.list true TStepk)], none⟩
abbrev s_impl_zeros : Sig := ⟨[.val (.int .i64)], [.str], none⟩
abbrev s_strings_Repeat : Sig := ⟨[.val .str, .val (.int .i64)], [.str], none⟩
abbrev s_spec_l04Ok : Sig := ⟨[.val (.list false TWritek)], [.bool], none⟩
abbrev s_spec_ChecksumOf : Sig := ⟨[.val .str], [(.int .i64)], none⟩
abbrev s_impl_listed : Sig := ⟨[.val (.list false TWritek)], [.bool], none⟩
abbrev s_impl_ChecksumOf : Sig := ⟨[.val .str], [(.int .i64)], none⟩
noncomputable def exts : List ExtE := [⟨146, s_slices_Clone_string_string, ext_slices_Clone_string_string⟩, ⟨147, s_slices_Clone_impl_Write_impl_Write, ext_slices_Clone_impl_Write_impl_Write⟩, ⟨154, s_strings_Repeat, ext_strings_Repeat⟩]
noncomputable def tab : Tab := {
  ty := [(2, (.int .i64)), (3, (.int .i64)), (4, .bool), (5, (.int .u8)), (9, .str), (22, (.list false (.int .u8))), (25, (.list false .str)), (53, (.list false TWritek)), (55, TDiskk), (56, (.list false .bool)), (58, (.list false TWritek)), (60, TDiskk), (92, (.list false TStepk)), (128, TWritek), (132, TWritek), (134, TStepk), (167, (.int .u64))],
  nf := [(55, 2), (60, 2), (128, 2), (132, 2), (134, 2)],
  el := [(22, 5, 1), (25, 9, 16), (56, 4, 1), (58, 132, 24), (92, 134, 32)],
  fnT := [1, 74],
  eqs := [128, 132, 134],
  sig := [(5, s_laws_FnExactCrashMount), (24, s_laws_szDisk), (25, s_spec_CrashMount), (26, s_laws_toDisk), (27, s_laws_toBoolS), (28, s_impl_CrashMount), (29, s_laws_eqDisk), (30, s_laws_eqBoolS), (32, s_laws_markBoolS), (33, s_laws_heldDisk), (47, s_laws_szStringS), (52, s_laws_toStringS), (55, s_laws_eqStringS), (58, s_laws_markStringS), (59, s_laws_szWriteS), (60, s_spec_CrashDisk), (61, s_spec_RunSteps), (62, s_spec_RecoverySteps), (63, s_laws_toWriteS), (64, s_impl_CrashDisk), (65, s_impl_RunSteps), (66, s_impl_RecoverySteps), (67, s_laws_eqWriteS), (68, s_laws_markWriteS), (69, s_laws_heldStringS), (70, s_laws_heldWriteS), (88, s_spec_l01In), (97, s_laws_markText), (98, s_laws_szWrite), (99, s_spec_IsDisk), (100, s_spec_l03Copy), (101, s_spec_l03Store), (102, s_spec_FlushDisk), (103, s_spec_WriteSector), (104, s_spec_ReadJournal), (105, s_spec_l04Clear), (106, s_laws_toWrite), (107, s_impl_copyDisk), (108, s_impl_IsDisk), (111, s_impl_all), (112, s_impl_Disk_write), (113, s_impl_ReadJournal), (114, s_impl_installSteps), (115, s_laws_eqWrite), (116, s_spec_PutNumber), (117, s_spec_PadTo), (118, s_impl_PutNumber), (119, s_impl_PadTo), (142, s_spec_l03Read), (143, s_spec_GetNumber), (144, s_spec_IsTxn), (145, s_spec_CommitSector), (146, s_slices_Clone_string_string), (147, s_slices_Clone_impl_Write_impl_Write), (148, s_impl_Disk_read), (149, s_impl_GetNumber), (150, s_impl_CommitSector), (151, s_impl_IsTxn), (152, s_impl_writeSteps), (153, s_impl_zeros), (154, s_strings_Repeat), (163, s_spec_l04Ok), (164, s_spec_ChecksumOf), (165, s_impl_listed), (166, s_impl_ChecksumOf)],
  body := [(5, Try.f5), (24, Try.f24), (25, Try.f25), (26, Try.f26), (27, Try.f27), (28, Try.f28), (29, Try.f29), (30, Try.f30), (31, Try.f31), (32, Try.f32), (33, Try.f33), (47, Try.f47), (52, Try.f52), (55, Try.f55), (58, Try.f58), (59, Try.f59), (60, Try.f60), (61, Try.f61), (62, Try.f62), (63, Try.f63), (64, Try.f64), (65, Try.f65), (66, Try.f66), (67, Try.f67), (68, Try.f68), (69, Try.f69), (70, Try.f70), (88, Try.f88), (97, Try.f97), (98, Try.f98), (99, Try.f99), (100, Try.f100), (101, Try.f101), (102, Try.f102), (103, Try.f103), (104, Try.f104), (105, Try.f105), (106, Try.f106), (107, Try.f107), (108, Try.f108), (109, Try.f109), (110, Try.f110), (111, Try.f111), (112, Try.f112), (113, Try.f113), (114, Try.f114), (115, Try.f115), (116, Try.f116), (117, Try.f117), (118, Try.f118), (119, Try.f119), (142, Try.f142), (143, Try.f143), (144, Try.f144), (145, Try.f145), (148, Try.f148), (149, Try.f149), (150, Try.f150), (151, Try.f151), (152, Try.f152), (153, Try.f153), (163, Try.f163), (164, Try.f164), (165, Try.f165), (166, Try.f166)] }
noncomputable def E1 : Env := tab.env (extOf exts)
noncomputable def H1 : Nat → Hints := fun f => (Eng.look [(27, ⟨fun r => (Eng.look [(3, [(0, none), (3, none), (4, none)])] r).getD [], fun r => Eng.look [] r⟩),
  (30, ⟨fun r => (Eng.look [(4, [(0, none), (1, none), (5, none)])] r).getD [], fun r => Eng.look [] r⟩),
  (32, ⟨fun r => (Eng.look [(2, [(0, none), (1, none), (5, none)])] r).getD [], fun r => Eng.look [] r⟩),
  (47, ⟨fun r => (Eng.look [(5, [(0, none), (1, none), (5, none)])] r).getD [], fun r => Eng.look [] r⟩),
  (52, ⟨fun r => (Eng.look [(3, [(0, none), (3, none), (4, none)])] r).getD [], fun r => Eng.look [] r⟩),
  (55, ⟨fun r => (Eng.look [(4, [(0, none), (1, none), (5, none)])] r).getD [], fun r => Eng.look [] r⟩),
  (58, ⟨fun r => (Eng.look [(2, [(0, none), (1, none), (5, none)])] r).getD [], fun r => Eng.look [] r⟩),
  (59, ⟨fun r => (Eng.look [(5, [(0, none), (1, none), (5, none)])] r).getD [], fun r => Eng.look [] r⟩),
  (61, ⟨fun r => (Eng.look [(3, [(2, none), (6, none), (7, none), (14, none), (15, none), (16, none)])] r).getD [], fun r => Eng.look [] r⟩),
  (62, ⟨fun r => (Eng.look [(6, [(6, none), (18, none), (19, none), (20, none)])] r).getD [], fun r => Eng.look [] r⟩),
  (63, ⟨fun r => (Eng.look [(3, [(0, none), (3, none), (4, none)])] r).getD [], fun r => Eng.look [] r⟩),
  (65, ⟨fun r => (Eng.look [(5, [(6, none), (7, none), (22, none), (23, none), (24, none)])] r).getD [], fun r => Eng.look [] r⟩),
  (67, ⟨fun r => (Eng.look [(4, [(0, none), (1, none), (5, none)])] r).getD [], fun r => Eng.look [] r⟩),
  (68, ⟨fun r => (Eng.look [(2, [(0, none), (1, none), (5, none)])] r).getD [], fun r => Eng.look [] r⟩),
  (69, ⟨fun r => (Eng.look [(2, [(0, none), (1, none), (5, none)])] r).getD [], fun r => Eng.look [] r⟩),
  (70, ⟨fun r => (Eng.look [(2, [(0, none), (1, none), (5, none)])] r).getD [], fun r => Eng.look [] r⟩),
  (97, ⟨fun r => (Eng.look [(4, [(0, none), (3, none)])] r).getD [], fun r => Eng.look [] r⟩),
  (99, ⟨fun r => (Eng.look [(2, [(1, none), (8, none), (9, none), (10, none)]), (8, [(1, none), (19, none), (20, none), (21, none)])] r).getD [], fun r => Eng.look [] r⟩),
  (101, ⟨fun r => (Eng.look [(3, [(1, none), (2, none), (6, none), (7, none), (16, none), (17, none), (18, none)])] r).getD [], fun r => Eng.look [] r⟩),
  (104, ⟨fun r => (Eng.look [(10, [(1, none), (5, none), (6, none), (8, none), (10, none), (11, none)])] r).getD [], fun r => Eng.look [] r⟩),
  (108, ⟨fun r => (Eng.look [(4, [(1, none), (18, none), (19, none), (20, none)]), (10, [(1, none), (29, none), (30, none), (31, none)])] r).getD [], fun r => Eng.look [] r⟩),
  (109, ⟨fun r => (Eng.look [(1, [(0, none), (1, none), (9, none), (10, none), (11, none)])] r).getD [], fun r => Eng.look [] r⟩),
  (113, ⟨fun r => (Eng.look [(10, [(1, none), (5, none), (6, none), (10, none), (37, none), (38, none)])] r).getD [], fun r => Eng.look [] r⟩),
  (116, ⟨fun r => (Eng.look [(5, [(0, none), (5, none), (6, none)])] r).getD [], fun r => Eng.look [] r⟩),
  (117, ⟨fun r => (Eng.look [(4, [(1, none), (5, none)])] r).getD [], fun r => Eng.look [] r⟩),
  (118, ⟨fun r => (Eng.look [(5, [(0, none), (5, none), (6, none)])] r).getD [], fun r => Eng.look [] r⟩),
  (142, ⟨fun r => (Eng.look [(2, [(1, none), (2, none), (5, none)])] r).getD [], fun r => Eng.look [] r⟩),
  (143, ⟨fun r => (Eng.look [(5, [(0, none), (1, none), (2, none), (8, none), (9, none)])] r).getD [], fun r => Eng.look [] r⟩),
  (144, ⟨fun r => (Eng.look [(4, [(1, none), (2, none), (22, none), (23, none), (24, none)])] r).getD [], fun r => Eng.look [] r⟩),
  (145, ⟨fun r => (Eng.look [(5, [(0, none), (1, none), (5, none), (16, none), (17, none), (18, none)])] r).getD [], fun r => Eng.look [] r⟩),
  (148, ⟨fun r => (Eng.look [(2, [(0, none), (1, none), (5, none)])] r).getD [], fun r => Eng.look [] r⟩),
  (149, ⟨fun r => (Eng.look [(5, [(0, none), (1, none), (8, none), (28, none), (29, none)])] r).getD [], fun r => Eng.look [] r⟩),
  (150, ⟨fun r => (Eng.look [(5, [(0, none), (1, none), (5, none), (19, none), (20, none), (21, none)])] r).getD [], fun r => Eng.look [] r⟩),
  (151, ⟨fun r => (Eng.look [(4, [(1, none), (2, none), (26, none), (27, none), (28, none)])] r).getD [], fun r => Eng.look [] r⟩),
  (152, ⟨fun r => (Eng.look [(3, [(3, none), (7, none), (8, none), (9, none)])] r).getD [], fun r => Eng.look [] r⟩),
  (163, ⟨fun r => (Eng.look [(2, [(0, none), (5, none), (6, none), (7, none)])] r).getD [], fun r => Eng.look [] r⟩),
  (164, ⟨fun r => (Eng.look [(4, [(0, none), (3, none), (4, none), (5, none)])] r).getD [], fun r => Eng.look [] r⟩),
  (165, ⟨fun r => (Eng.look [(2, [(0, none), (5, none), (6, none), (7, none)])] r).getD [], fun r => Eng.look [] r⟩),
  (166, ⟨fun r => (Eng.look [(3, [(0, none), (3, none), (4, none), (7, none), (8, none)])] r).getD [], fun r => Eng.look [] r⟩)] f).getD ⟨fun _ => [], fun _ => none⟩
noncomputable def c_laws_FnExactCrashMount (k : Nat) (x : (DDisk × (Int × (List Bool)))) : Option Bool := runF E1 H1 k 5 s_laws_FnExactCrashMount x
noncomputable def c_laws_szDisk (k : Nat) (x : (DDisk × Int)) : Option Int := runF E1 H1 k 24 s_laws_szDisk x
noncomputable def c_spec_CrashMount (k : Nat) (x : (DDisk × (Int × (List Bool)))) : Option DDisk := runF E1 H1 k 25 s_spec_CrashMount x
noncomputable def c_laws_toDisk (k : Nat) (x : DDisk) : Option DDisk := runF E1 H1 k 26 s_laws_toDisk x
noncomputable def c_laws_toBoolS (k : Nat) (x : (List Bool)) : Option (List Bool) := runF E1 H1 k 27 s_laws_toBoolS x
noncomputable def c_impl_CrashMount (k : Nat) (x : (DDisk × (Int × (List Bool)))) : Option DDisk := runF E1 H1 k 28 s_impl_CrashMount x
noncomputable def c_laws_eqDisk (k : Nat) (x : (DDisk × DDisk)) : Option Bool := runF E1 H1 k 29 s_laws_eqDisk x
noncomputable def c_laws_eqBoolS (k : Nat) (x : ((List Bool) × (List Bool))) : Option Bool := runF E1 H1 k 30 s_laws_eqBoolS x
noncomputable def c_laws_markBoolS (k : Nat) (x : ((List Bool) × Int)) : Option (Int × (List Bool)) := runF E1 H1 k 32 s_laws_markBoolS x
noncomputable def c_laws_heldDisk (k : Nat) (x : (DDisk × Int)) : Option Int := runF E1 H1 k 33 s_laws_heldDisk x
noncomputable def c_laws_szStringS (k : Nat) (x : ((List ByteArray) × Int)) : Option Int := runF E1 H1 k 47 s_laws_szStringS x
noncomputable def c_laws_toStringS (k : Nat) (x : (List ByteArray)) : Option (List ByteArray) := runF E1 H1 k 52 s_laws_toStringS x
noncomputable def c_laws_eqStringS (k : Nat) (x : ((List ByteArray) × (List ByteArray))) : Option Bool := runF E1 H1 k 55 s_laws_eqStringS x
noncomputable def c_laws_markStringS (k : Nat) (x : ((List ByteArray) × Int)) : Option (Int × (List ByteArray)) := runF E1 H1 k 58 s_laws_markStringS x
noncomputable def c_laws_szWriteS (k : Nat) (x : ((List DWrite) × Int)) : Option Int := runF E1 H1 k 59 s_laws_szWriteS x
noncomputable def c_spec_CrashDisk (k : Nat) (x : (DDisk × (List Bool))) : Option DDisk := runF E1 H1 k 60 s_spec_CrashDisk x
noncomputable def c_spec_RunSteps (k : Nat) (x : (DDisk × ((List DStep) × Int))) : Option DDisk := runF E1 H1 k 61 s_spec_RunSteps x
noncomputable def c_spec_RecoverySteps (k : Nat) (x : DDisk) : Option (List DStep) := runF E1 H1 k 62 s_spec_RecoverySteps x
noncomputable def c_laws_toWriteS (k : Nat) (x : (List DWrite)) : Option (List DWrite) := runF E1 H1 k 63 s_laws_toWriteS x
noncomputable def c_impl_CrashDisk (k : Nat) (x : (DDisk × (List Bool))) : Option DDisk := runF E1 H1 k 64 s_impl_CrashDisk x
noncomputable def c_impl_RunSteps (k : Nat) (x : (DDisk × ((List DStep) × Int))) : Option DDisk := runF E1 H1 k 65 s_impl_RunSteps x
noncomputable def c_impl_RecoverySteps (k : Nat) (x : DDisk) : Option (List DStep) := runF E1 H1 k 66 s_impl_RecoverySteps x
noncomputable def c_laws_eqWriteS (k : Nat) (x : ((List DWrite) × (List DWrite))) : Option Bool := runF E1 H1 k 67 s_laws_eqWriteS x
noncomputable def c_laws_markWriteS (k : Nat) (x : ((List DWrite) × Int)) : Option (Int × (List DWrite)) := runF E1 H1 k 68 s_laws_markWriteS x
noncomputable def c_laws_heldStringS (k : Nat) (x : ((List ByteArray) × Int)) : Option Int := runF E1 H1 k 69 s_laws_heldStringS x
noncomputable def c_laws_heldWriteS (k : Nat) (x : ((List DWrite) × Int)) : Option Int := runF E1 H1 k 70 s_laws_heldWriteS x
noncomputable def c_spec_l01In (k : Nat) (x : DAclEntry) : Option Bool := runF E1 H1 k 88 s_spec_l01In x
noncomputable def c_laws_markText (k : Nat) (x : Int) : Option ByteArray := runF E1 H1 k 97 s_laws_markText x
noncomputable def c_laws_szWrite (k : Nat) (x : (DWrite × Int)) : Option Int := runF E1 H1 k 98 s_laws_szWrite x
noncomputable def c_spec_IsDisk (k : Nat) (x : DDisk) : Option Bool := runF E1 H1 k 99 s_spec_IsDisk x
noncomputable def c_spec_l03Copy (k : Nat) (x : DDisk) : Option DDisk := runF E1 H1 k 100 s_spec_l03Copy x
noncomputable def c_spec_l03Store (k : Nat) (x : (DDisk × ((List Bool) × Bool))) : Option DDisk := runF E1 H1 k 101 s_spec_l03Store x
noncomputable def c_spec_FlushDisk (k : Nat) (x : DDisk) : Option DDisk := runF E1 H1 k 102 s_spec_FlushDisk x
noncomputable def c_spec_WriteSector (k : Nat) (x : (DDisk × DWrite)) : Option (DDisk × Bool) := runF E1 H1 k 103 s_spec_WriteSector x
noncomputable def c_spec_ReadJournal (k : Nat) (x : DDisk) : Option (Int × ((List DWrite) × Bool)) := runF E1 H1 k 104 s_spec_ReadJournal x
noncomputable def c_spec_l04Clear (k : Nat) (x : Unit) : Option (List DStep) := runF E1 H1 k 105 s_spec_l04Clear x
noncomputable def c_laws_toWrite (k : Nat) (x : DWrite) : Option DWrite := runF E1 H1 k 106 s_laws_toWrite x
noncomputable def c_impl_copyDisk (k : Nat) (x : DDisk) : Option DDisk := runF E1 H1 k 107 s_impl_copyDisk x
noncomputable def c_impl_IsDisk (k : Nat) (x : DDisk) : Option Bool := runF E1 H1 k 108 s_impl_IsDisk x
noncomputable def c_impl_all (k : Nat) (x : Int) : Option Bool := runF E1 H1 k 111 s_impl_all x
noncomputable def c_impl_Disk_write (k : Nat) (x : (DDisk × DWrite)) : Option (Bool × DDisk) := runF E1 H1 k 112 s_impl_Disk_write x
noncomputable def c_impl_ReadJournal (k : Nat) (x : DDisk) : Option (Int × ((List DWrite) × Bool)) := runF E1 H1 k 113 s_impl_ReadJournal x
noncomputable def c_impl_installSteps (k : Nat) (x : (List DWrite)) : Option (List DStep) := runF E1 H1 k 114 s_impl_installSteps x
noncomputable def c_laws_eqWrite (k : Nat) (x : (DWrite × DWrite)) : Option Bool := runF E1 H1 k 115 s_laws_eqWrite x
noncomputable def c_spec_PutNumber (k : Nat) (x : DQuota) : Option ByteArray := runF E1 H1 k 116 s_spec_PutNumber x
noncomputable def c_spec_PadTo (k : Nat) (x : DerrorAddressString) : Option ByteArray := runF E1 H1 k 117 s_spec_PadTo x
noncomputable def c_impl_PutNumber (k : Nat) (x : DQuota) : Option ByteArray := runF E1 H1 k 118 s_impl_PutNumber x
noncomputable def c_impl_PadTo (k : Nat) (x : DerrorAddressString) : Option ByteArray := runF E1 H1 k 119 s_impl_PadTo x
noncomputable def c_spec_l03Read (k : Nat) (x : (DDisk × Int)) : Option ByteArray := runF E1 H1 k 142 s_spec_l03Read x
noncomputable def c_spec_GetNumber (k : Nat) (x : (ByteArray × DQuota)) : Option (Int × Bool) := runF E1 H1 k 143 s_spec_GetNumber x
noncomputable def c_spec_IsTxn (k : Nat) (x : (DDisk × (List DWrite))) : Option Bool := runF E1 H1 k 144 s_spec_IsTxn x
noncomputable def c_spec_CommitSector (k : Nat) (x : (Int × (List DWrite))) : Option ByteArray := runF E1 H1 k 145 s_spec_CommitSector x
noncomputable def c_slices_Clone_string_string (k : Nat) (x : (List ByteArray)) : Option (List ByteArray) := runF E1 H1 k 146 s_slices_Clone_string_string x
noncomputable def c_slices_Clone_impl_Write_impl_Write (k : Nat) (x : (List DWrite)) : Option (List DWrite) := runF E1 H1 k 147 s_slices_Clone_impl_Write_impl_Write x
noncomputable def c_impl_Disk_read (k : Nat) (x : ((Option DDisk) × Int)) : Option ByteArray := runF E1 H1 k 148 s_impl_Disk_read x
noncomputable def c_impl_GetNumber (k : Nat) (x : (ByteArray × DQuota)) : Option (Int × Bool) := runF E1 H1 k 149 s_impl_GetNumber x
noncomputable def c_impl_CommitSector (k : Nat) (x : (Int × (List DWrite))) : Option ByteArray := runF E1 H1 k 150 s_impl_CommitSector x
noncomputable def c_impl_IsTxn (k : Nat) (x : (DDisk × (List DWrite))) : Option Bool := runF E1 H1 k 151 s_impl_IsTxn x
noncomputable def c_impl_writeSteps (k : Nat) (x : (List DWrite)) : Option (List DStep) := runF E1 H1 k 152 s_impl_writeSteps x
noncomputable def c_impl_zeros (k : Nat) (x : Int) : Option ByteArray := runF E1 H1 k 153 s_impl_zeros x
noncomputable def c_strings_Repeat (k : Nat) (x : DerrorAddressString) : Option ByteArray := runF E1 H1 k 154 s_strings_Repeat x
noncomputable def c_spec_l04Ok (k : Nat) (x : (List DWrite)) : Option Bool := runF E1 H1 k 163 s_spec_l04Ok x
noncomputable def c_spec_ChecksumOf (k : Nat) (x : ByteArray) : Option Int := runF E1 H1 k 164 s_spec_ChecksumOf x
noncomputable def c_impl_listed (k : Nat) (x : (List DWrite)) : Option Bool := runF E1 H1 k 165 s_impl_listed x
noncomputable def c_impl_ChecksumOf (k : Nat) (x : ByteArray) : Option Int := runF E1 H1 k 166 s_impl_ChecksumOf x
theorem c_slices_Clone_string_string_run (k : Nat) (x) : c_slices_Clone_string_string (k + 1) x = ext_slices_Clone_string_string x := by kernel_rfl
theorem c_slices_Clone_impl_Write_impl_Write_run (k : Nat) (x) : c_slices_Clone_impl_Write_impl_Write (k + 1) x = ext_slices_Clone_impl_Write_impl_Write x := by kernel_rfl
theorem c_strings_Repeat_run (k : Nat) (x) : c_strings_Repeat (k + 1) x = ext_strings_Repeat x := by kernel_rfl
end Go.Proofs.Ytnbipilpdhhhmaa
