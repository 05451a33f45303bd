/- The tables, the residual functions and lemmas of this seat: parts of the proof of the law; conditions: those that each names. -/
import Derived.Test.YtdbemlllcdpdbaaEng5
import Derived.KernelRfl
import Derived.Test.YtdbemlllcdpdbaaProg
set_option maxRecDepth 100000
namespace Go.Proofs.Ytdbemlllcdpdbaa
open Go.Eng
abbrev DQuota : Type := (Int × Int)
abbrev DerrorAddressString : Type := (ByteArray × Int)
abbrev DWrite : Type := (Int × ByteArray)
abbrev DAclEntry : Type := (Int × DQuota)
abbrev DStep : Type := (Bool × DWrite)
abbrev Dl01Cur : Type := ((List Int) × DQuota)
abbrev DboundsError : Type := (Int × (Int × (Bool × Int)))
abbrev DDisk : Type := ((List ByteArray) × (List DWrite))
abbrev DInode : Type := (Int × (Int × (Int × (Int × (Int × (Int × (Int × ((List Int) × ((List DAclEntry) × (List DAclEntry))))))))))
abbrev DFS : Type := (Int × ((List DQuota) × ((List DInode) × (List ByteArray))))
abbrev TerrorAddressStringk : Ty := (.pair .str (.int .u64))
abbrev TWritek : Ty := (.pair (.int .i64) .str)
abbrev TQuotak : Ty := (.pair (.int .i64) (.int .i64))
abbrev TStepk : Ty := (.pair .bool TWritek)
abbrev TAclEntryk : Ty := (.pair (.int .i64) TQuotak)
abbrev TDisko : Ty := (.pair (.list true .str) (.list true TWritek))
abbrev Tl01Curo : Ty := (.pair (.list true (.int .u8)) TQuotak)
abbrev TboundsErrork : Ty := (.pair (.int .i64) (.pair (.int .i64) (.pair .bool (.int .u8))))
abbrev Tl01Curk : Ty := (.pair (.list false (.int .u8)) TQuotak)
abbrev TDiskk : Ty := (.pair (.list false .str) (.list false TWritek))
abbrev TInodeo : Ty := (.pair (.int .i64) (.pair (.int .i64) (.pair (.int .i64) (.pair (.int .i64) (.pair (.int .i64) (.pair (.int .i64) (.pair (.int .i64) (.pair (.list true (.int .i64)) (.pair (.list true TAclEntryk) (.list true TAclEntryk))))))))))
abbrev TInodek : Ty := (.pair (.int .i64) (.pair (.int .i64) (.pair (.int .i64) (.pair (.int .i64) (.pair (.int .i64) (.pair (.int .i64) (.pair (.int .i64) (.pair (.list false (.int .i64)) (.pair (.list false TAclEntryk) (.list false TAclEntryk))))))))))
abbrev TFSo : Ty := (.pair (.int .i64) (.pair (.list true TQuotak) (.pair (.list true TInodeo) (.list true .str))))
abbrev TFSk : Ty := (.pair (.int .i64) (.pair (.list false TQuotak) (.pair (.list false TInodek) (.list false .str))))
abbrev s_laws_FnRecover : Sig := ⟨[.val (.list false (.int .u8))], [.bool], none⟩
abbrev s_spec_MakeJournalDisk : Sig := ⟨[.val (.list false (.int .u8))], [TDisko], none⟩
abbrev s_spec_MakeTxn : Sig := ⟨[.val (.list false (.int .u8))], [(.list true TWritek)], none⟩
abbrev s_impl_TxnSteps : Sig := ⟨[.val (.int .i64), .val (.list false TWritek)], [(.list true TStepk)], none⟩
abbrev s_spec_MakeNum : Sig := ⟨[.val (.list false (.int .u8)), .val (.int .i64)], [(.int .i64)], none⟩
abbrev s_impl_CrashDisk : Sig := ⟨[.val TDiskk, .val (.list false .bool)], [TDisko], none⟩
abbrev s_impl_RunSteps : Sig := ⟨[.val TDiskk, .val (.list false TStepk), .val (.int .i64)], [TDisko], none⟩
abbrev s_spec_MakeKeep : Sig := ⟨[.val (.list false (.int .u8)), .val (.int .i64)], [(.list true .bool)], none⟩
abbrev s_impl_RecoverySteps : Sig := ⟨[.val TDiskk], [(.list true TStepk)], none⟩
abbrev s_impl_CrashMount : Sig := ⟨[.val TDiskk, .val (.int .i64), .val (.list false .bool)], [TDisko], none⟩
abbrev s_impl_RecoverDisk : Sig := ⟨[.val TDiskk], [TDisko], none⟩
abbrev s_impl_ReadSector : Sig := ⟨[.val TDiskk, .val (.int .i64)], [.str], none⟩
abbrev s_impl_SameDisk : Sig := ⟨[.val TDiskk, .val TDiskk], [.bool], none⟩
abbrev s_spec_l04Disk : Sig := ⟨[], [TDisko], some (true, Tl01Curk)⟩
abbrev s_spec_l04Txn : Sig := ⟨[], [(.list true TWritek)], some (true, Tl01Curk)⟩
abbrev s_impl_JournalWrites : Sig := ⟨[.val (.list false TWritek)], [(.list true TWritek)], none⟩
abbrev s_impl_CommitSector : Sig := ⟨[.val (.int .i64), .val (.list false TWritek)], [.str], none⟩
abbrev s_impl_writeSteps : Sig := ⟨[.val (.list false TWritek)], [(.list true TStepk)], none⟩
abbrev s_impl_installSteps : Sig := ⟨[.val (.list false TWritek)], [(.list true TStepk)], none⟩
abbrev s_spec_l01Byte : Sig := ⟨[], [(.int .i64)], some (true, Tl01Curk)⟩
abbrev s_impl_copyDisk : Sig := ⟨[.val TDiskk], [TDisko], none⟩
abbrev s_impl_IsDisk : Sig := ⟨[.val TDiskk], [.bool], none⟩
abbrev s_impl_all : Sig := ⟨[.val (.int .i64)], [.bool], none⟩
abbrev s_impl_Disk_write : Sig := ⟨[.val (.int .i64), .val .str], [.bool], some (true, TDisko)⟩
abbrev s_spec_l03Keep : Sig := ⟨[], [(.list true .bool)], some (true, Tl01Curk)⟩
abbrev s_impl_ReadJournal : Sig := ⟨[.val TDiskk], [(.int .i64), (.list true TWritek), .bool], none⟩
abbrev s_impl_Disk_read : Sig := ⟨[.val (.ptr TDiskk), .val (.int .i64)], [.str], none⟩
abbrev s_slices_Equal_string_string : Sig := ⟨[.val (.list false .str), .val (.list false .str)], [.bool], none⟩
abbrev s_slices_Equal_impl_Write_impl_Write : Sig := ⟨[.val (.list false TWritek), .val (.list false TWritek)], [.bool], none⟩
abbrev s_impl_zeros : Sig := ⟨[.val (.int .i64)], [.str], none⟩
abbrev s_impl_CutAll : Sig := ⟨[.val .str, .val (.int .i64)], [(.list true .str)], none⟩
abbrev s_spec_l01In : Sig := ⟨[.val (.int .i64), .val (.int .i64), .val (.int .i64)], [.bool], none⟩
abbrev s_impl_GetNumber : Sig := ⟨[.val .str, .val (.int .i64), .val (.int .i64)], [(.int .i64), .bool], none⟩
abbrev s_slices_Clone_string_string : Sig := ⟨[.val (.list false .str)], [(.list true .str)], none⟩
abbrev s_spec_NewDisk : Sig := ⟨[.val (.int .i64)], [TDisko], none⟩
abbrev s_spec_l03Sector : Sig := ⟨[], [.str], some (true, Tl01Curk)⟩
abbrev s_spec_l01Once : Sig := ⟨[.val (.int .i64)], [.bool], some (true, Tl01Curk)⟩
abbrev s_impl_listed : Sig := ⟨[.val (.list false TWritek)], [.bool], none⟩
abbrev s_impl_PutNumber : Sig := ⟨[.val (.int .i64), .val (.int .i64)], [.str], none⟩
abbrev s_impl_PadTo : Sig := ⟨[.val .str, .val (.int .i64)], [.str], none⟩
abbrev s_impl_ChecksumOf : Sig := ⟨[.val .str], [(.int .i64)], none⟩
abbrev s_slices_Clone_impl_Write_impl_Write : Sig := ⟨[.val (.list false TWritek)], [(.list true TWritek)], none⟩
abbrev s_spec_l01Below : Sig := ⟨[.val (.int .i64)], [(.int .i64)], some (true, Tl01Curk)⟩
abbrev s_impl_IsTxn : Sig := ⟨[.val TDiskk, .val (.list false TWritek)], [.bool], none⟩
abbrev s_spec_PadTo : Sig := ⟨[.val .str, .val (.int .i64)], [.str], none⟩
abbrev s_spec_l02Bytes : Sig := ⟨[.val (.int .i64)], [.str], some (true, Tl01Curk)⟩
abbrev s_strings_Repeat : Sig := ⟨[.val .str, .val (.int .i64)], [.str], none⟩
abbrev s_spec_l01Pick : Sig := ⟨[.val (.list false (.int .i64))], [(.int .i64)], some (true, Tl01Curk)⟩
noncomputable def exts : List ExtE := [⟨75, s_slices_Clone_string_string, ext_slices_Clone_string_string⟩, ⟨85, s_slices_Clone_impl_Write_impl_Write, ext_slices_Clone_impl_Write_impl_Write⟩, ⟨116, s_strings_Repeat, ext_strings_Repeat⟩]
noncomputable def tab : Tab := {
  ty := [(2, (.int .i64)), (3, (.int .i64)), (4, .bool), (5, (.int .u8)), (6, (.int .u8)), (9, .str), (22, (.list false (.int .u8))), (23, (.list false .str)), (24, (.list false TWritek)), (26, TDiskk), (29, (.list false TStepk)), (34, (.list false .bool)), (63, (.ptr Tl01Curk)), (71, TWritek), (73, TStepk), (91, (.list false (.int .i64))), (112, Tl01Curk)],
  nf := [(26, 2), (71, 2), (73, 2), (112, 3)],
  el := [(22, 5, 1), (23, 9, 16), (24, 71, 24), (29, 73, 32), (34, 4, 1)],
  fnT := [1, 77],
  eqs := [71, 73],
  sig := [(3, s_laws_FnRecover), (6, s_spec_MakeJournalDisk), (7, s_spec_MakeTxn), (8, s_impl_TxnSteps), (9, s_spec_MakeNum), (10, s_impl_CrashDisk), (11, s_impl_RunSteps), (12, s_spec_MakeKeep), (13, s_impl_RecoverySteps), (14, s_impl_CrashMount), (15, s_impl_RecoverDisk), (16, s_impl_ReadSector), (17, s_impl_SameDisk), (32, s_spec_l04Disk), (34, s_spec_l04Txn), (36, s_impl_JournalWrites), (37, s_impl_CommitSector), (38, s_impl_writeSteps), (39, s_impl_installSteps), (40, s_spec_l01Byte), (41, s_impl_copyDisk), (42, s_impl_IsDisk), (45, s_impl_all), (46, s_impl_Disk_write), (47, s_spec_l03Keep), (48, s_impl_ReadJournal), (49, s_impl_Disk_read), (50, s_slices_Equal_string_string), (51, s_slices_Equal_impl_Write_impl_Write), (61, s_impl_zeros), (62, s_impl_CutAll), (71, s_spec_l01In), (72, s_impl_GetNumber), (75, s_slices_Clone_string_string), (78, s_spec_NewDisk), (79, s_spec_l03Sector), (80, s_spec_l01Once), (81, s_impl_listed), (82, s_impl_PutNumber), (83, s_impl_PadTo), (84, s_impl_ChecksumOf), (85, s_slices_Clone_impl_Write_impl_Write), (86, s_spec_l01Below), (87, s_impl_IsTxn), (93, s_spec_PadTo), (115, s_spec_l02Bytes), (116, s_strings_Repeat), (141, s_spec_l01Pick)],
  body := [(3, Try.f3), (6, Try.f6), (7, Try.f7), (8, Try.f8), (9, Try.f9), (10, Try.f10), (11, Try.f11), (12, Try.f12), (13, Try.f13), (14, Try.f14), (15, Try.f15), (16, Try.f16), (17, Try.f17), (32, Try.f32), (33, Try.f33), (34, Try.f34), (35, Try.f35), (36, Try.f36), (37, Try.f37), (38, Try.f38), (39, Try.f39), (40, Try.f40), (41, Try.f41), (42, Try.f42), (43, Try.f43), (44, Try.f44), (45, Try.f45), (46, Try.f46), (47, Try.f47), (48, Try.f48), (49, Try.f49), (50, Try.f50), (51, Try.f51), (61, Try.f61), (62, Try.f62), (71, Try.f71), (72, Try.f72), (78, Try.f78), (79, Try.f79), (80, Try.f80), (81, Try.f81), (82, Try.f82), (83, Try.f83), (84, Try.f84), (86, Try.f86), (87, Try.f87), (93, Try.f93), (115, Try.f115), (141, Try.f141)] }
noncomputable def E1 : Env := tab.env (extOf exts)
noncomputable def H1 : Nat → Hints := fun f => (Eng.look [(3, ⟨fun r => (Eng.look [(13, [(3, none), (5, none), (10, none), (11, none), (53, none), (54, none)])] r).getD [], fun r => Eng.look [] r⟩),
  (11, ⟨fun r => (Eng.look [(5, [(6, none), (7, none), (22, none), (23, none), (24, none)])] r).getD [], fun r => Eng.look [] r⟩),
  (32, ⟨fun r => (Eng.look [(3, [(0, none), (2, none), (3, none), (4, none)])] r).getD [], fun r => Eng.look [] r⟩),
  (33, ⟨fun r => (Eng.look [(3, [(0, none), (3, none), (4, none)])] r).getD [], fun r => Eng.look [] r⟩),
  (34, ⟨fun r => (Eng.look [(3, [(0, none), (3, none), (7, none), (8, none), (9, none)])] r).getD [], fun r => Eng.look [] r⟩),
  (35, ⟨fun r => (Eng.look [(3, [(1, none), (5, none), (6, none)])] r).getD [], fun r => Eng.look [] r⟩),
  (36, ⟨fun r => (Eng.look [(5, [(3, none), (4, none), (14, none), (15, none), (16, none)]), (14, [(4, none), (7, none), (41, none), (42, none), (43, none)])] r).getD [], fun r => Eng.look [] r⟩),
  (37, ⟨fun r => (Eng.look [(5, [(0, none), (1, none), (5, none), (19, none), (20, none), (21, none)])] r).getD [], fun r => Eng.look [] r⟩),
  (38, ⟨fun r => (Eng.look [(3, [(3, none), (7, none), (8, none), (9, none)])] r).getD [], fun r => Eng.look [] r⟩),
  (42, ⟨fun r => (Eng.look [(4, [(1, none), (18, none), (19, none), (20, none)]), (10, [(1, none), (29, none), (30, none), (31, none)])] r).getD [], fun r => Eng.look [] r⟩),
  (43, ⟨fun r => (Eng.look [(1, [(0, none), (1, none), (9, none), (10, none), (11, none)])] r).getD [], fun r => Eng.look [] r⟩),
  (47, ⟨fun r => (Eng.look [(3, [(0, none), (3, none), (4, none)])] r).getD [], fun r => Eng.look [] r⟩),
  (48, ⟨fun r => (Eng.look [(10, [(1, none), (5, none), (6, none), (10, none), (37, none), (38, none)])] r).getD [], fun r => Eng.look [] r⟩),
  (49, ⟨fun r => (Eng.look [(2, [(0, none), (1, none), (5, none)])] r).getD [], fun r => Eng.look [] r⟩),
  (50, ⟨fun r => (Eng.look [(4, [(0, none), (1, none), (12, none), (13, none)])] r).getD [], fun r => Eng.look [] r⟩),
  (51, ⟨fun r => (Eng.look [(4, [(0, none), (1, none), (12, none), (13, none)])] r).getD [], fun r => Eng.look [] r⟩),
  (62, ⟨fun r => (Eng.look [(4, [(0, none), (1, none), (5, none)])] r).getD [], fun r => Eng.look [] r⟩),
  (72, ⟨fun r => (Eng.look [(5, [(0, none), (1, none), (8, none), (28, none), (29, none)])] r).getD [], fun r => Eng.look [] r⟩),
  (78, ⟨fun r => (Eng.look [(4, [(0, none), (2, none), (3, none)])] r).getD [], fun r => Eng.look [] r⟩),
  (81, ⟨fun r => (Eng.look [(2, [(0, none), (5, none), (6, none), (7, none)])] r).getD [], fun r => Eng.look [] r⟩),
  (82, ⟨fun r => (Eng.look [(5, [(0, none), (5, none), (6, none)])] r).getD [], fun r => Eng.look [] r⟩),
  (84, ⟨fun r => (Eng.look [(3, [(0, none), (3, none), (4, none), (7, none), (8, none)])] r).getD [], fun r => Eng.look [] r⟩),
  (87, ⟨fun r => (Eng.look [(4, [(1, none), (2, none), (26, none), (27, none), (28, none)])] r).getD [], fun r => Eng.look [] r⟩),
  (93, ⟨fun r => (Eng.look [(4, [(1, none), (5, none)])] r).getD [], fun r => Eng.look [] r⟩),
  (115, ⟨fun r => (Eng.look [(3, [(0, none), (5, none), (6, none)])] r).getD [], fun r => Eng.look [] r⟩)] f).getD ⟨fun _ => [], fun _ => none⟩
noncomputable def c_laws_FnRecover (k : Nat) (x : (List Int)) : Option Bool := runF E1 H1 k 3 s_laws_FnRecover x
noncomputable def c_spec_MakeJournalDisk (k : Nat) (x : (List Int)) : Option DDisk := runF E1 H1 k 6 s_spec_MakeJournalDisk x
noncomputable def c_spec_MakeTxn (k : Nat) (x : (List Int)) : Option (List DWrite) := runF E1 H1 k 7 s_spec_MakeTxn x
noncomputable def c_impl_TxnSteps (k : Nat) (x : (Int × (List DWrite))) : Option (List DStep) := runF E1 H1 k 8 s_impl_TxnSteps x
noncomputable def c_spec_MakeNum (k : Nat) (x : ((List Int) × Int)) : Option Int := runF E1 H1 k 9 s_spec_MakeNum x
noncomputable def c_impl_CrashDisk (k : Nat) (x : (DDisk × (List Bool))) : Option DDisk := runF E1 H1 k 10 s_impl_CrashDisk x
noncomputable def c_impl_RunSteps (k : Nat) (x : (DDisk × ((List DStep) × Int))) : Option DDisk := runF E1 H1 k 11 s_impl_RunSteps x
noncomputable def c_spec_MakeKeep (k : Nat) (x : ((List Int) × Int)) : Option (List Bool) := runF E1 H1 k 12 s_spec_MakeKeep x
noncomputable def c_impl_RecoverySteps (k : Nat) (x : DDisk) : Option (List DStep) := runF E1 H1 k 13 s_impl_RecoverySteps x
noncomputable def c_impl_CrashMount (k : Nat) (x : (DDisk × (Int × (List Bool)))) : Option DDisk := runF E1 H1 k 14 s_impl_CrashMount x
noncomputable def c_impl_RecoverDisk (k : Nat) (x : DDisk) : Option DDisk := runF E1 H1 k 15 s_impl_RecoverDisk x
noncomputable def c_impl_ReadSector (k : Nat) (x : (DDisk × Int)) : Option ByteArray := runF E1 H1 k 16 s_impl_ReadSector x
noncomputable def c_impl_SameDisk (k : Nat) (x : (DDisk × DDisk)) : Option Bool := runF E1 H1 k 17 s_impl_SameDisk x
noncomputable def c_spec_l04Disk (k : Nat) (x : Dl01Cur) : Option (DDisk × Dl01Cur) := runF E1 H1 k 32 s_spec_l04Disk x
noncomputable def c_spec_l04Txn (k : Nat) (x : Dl01Cur) : Option ((List DWrite) × Dl01Cur) := runF E1 H1 k 34 s_spec_l04Txn x
noncomputable def c_impl_JournalWrites (k : Nat) (x : (List DWrite)) : Option (List DWrite) := runF E1 H1 k 36 s_impl_JournalWrites x
noncomputable def c_impl_CommitSector (k : Nat) (x : (Int × (List DWrite))) : Option ByteArray := runF E1 H1 k 37 s_impl_CommitSector x
noncomputable def c_impl_writeSteps (k : Nat) (x : (List DWrite)) : Option (List DStep) := runF E1 H1 k 38 s_impl_writeSteps x
noncomputable def c_impl_installSteps (k : Nat) (x : (List DWrite)) : Option (List DStep) := runF E1 H1 k 39 s_impl_installSteps x
noncomputable def c_spec_l01Byte (k : Nat) (x : Dl01Cur) : Option (Int × Dl01Cur) := runF E1 H1 k 40 s_spec_l01Byte x
noncomputable def c_impl_copyDisk (k : Nat) (x : DDisk) : Option DDisk := runF E1 H1 k 41 s_impl_copyDisk x
noncomputable def c_impl_IsDisk (k : Nat) (x : DDisk) : Option Bool := runF E1 H1 k 42 s_impl_IsDisk x
noncomputable def c_impl_all (k : Nat) (x : Int) : Option Bool := runF E1 H1 k 45 s_impl_all x
noncomputable def c_impl_Disk_write (k : Nat) (x : (DDisk × DWrite)) : Option (Bool × DDisk) := runF E1 H1 k 46 s_impl_Disk_write x
noncomputable def c_spec_l03Keep (k : Nat) (x : Dl01Cur) : Option ((List Bool) × Dl01Cur) := runF E1 H1 k 47 s_spec_l03Keep x
noncomputable def c_impl_ReadJournal (k : Nat) (x : DDisk) : Option (Int × ((List DWrite) × Bool)) := runF E1 H1 k 48 s_impl_ReadJournal x
noncomputable def c_impl_Disk_read (k : Nat) (x : ((Option DDisk) × Int)) : Option ByteArray := runF E1 H1 k 49 s_impl_Disk_read x
noncomputable def c_slices_Equal_string_string (k : Nat) (x : ((List ByteArray) × (List ByteArray))) : Option Bool := runF E1 H1 k 50 s_slices_Equal_string_string x
noncomputable def c_slices_Equal_impl_Write_impl_Write (k : Nat) (x : ((List DWrite) × (List DWrite))) : Option Bool := runF E1 H1 k 51 s_slices_Equal_impl_Write_impl_Write x
noncomputable def c_impl_zeros (k : Nat) (x : Int) : Option ByteArray := runF E1 H1 k 61 s_impl_zeros x
noncomputable def c_impl_CutAll (k : Nat) (x : DerrorAddressString) : Option (List ByteArray) := runF E1 H1 k 62 s_impl_CutAll x
noncomputable def c_spec_l01In (k : Nat) (x : DAclEntry) : Option Bool := runF E1 H1 k 71 s_spec_l01In x
noncomputable def c_impl_GetNumber (k : Nat) (x : (ByteArray × DQuota)) : Option (Int × Bool) := runF E1 H1 k 72 s_impl_GetNumber x
noncomputable def c_slices_Clone_string_string (k : Nat) (x : (List ByteArray)) : Option (List ByteArray) := runF E1 H1 k 75 s_slices_Clone_string_string x
noncomputable def c_spec_NewDisk (k : Nat) (x : Int) : Option DDisk := runF E1 H1 k 78 s_spec_NewDisk x
noncomputable def c_spec_l03Sector (k : Nat) (x : Dl01Cur) : Option (ByteArray × Dl01Cur) := runF E1 H1 k 79 s_spec_l03Sector x
noncomputable def c_spec_l01Once (k : Nat) (x : (Dl01Cur × Int)) : Option (Bool × Dl01Cur) := runF E1 H1 k 80 s_spec_l01Once x
noncomputable def c_impl_listed (k : Nat) (x : (List DWrite)) : Option Bool := runF E1 H1 k 81 s_impl_listed x
noncomputable def c_impl_PutNumber (k : Nat) (x : DQuota) : Option ByteArray := runF E1 H1 k 82 s_impl_PutNumber x
noncomputable def c_impl_PadTo (k : Nat) (x : DerrorAddressString) : Option ByteArray := runF E1 H1 k 83 s_impl_PadTo x
noncomputable def c_impl_ChecksumOf (k : Nat) (x : ByteArray) : Option Int := runF E1 H1 k 84 s_impl_ChecksumOf x
noncomputable def c_slices_Clone_impl_Write_impl_Write (k : Nat) (x : (List DWrite)) : Option (List DWrite) := runF E1 H1 k 85 s_slices_Clone_impl_Write_impl_Write x
noncomputable def c_spec_l01Below (k : Nat) (x : (Dl01Cur × Int)) : Option (Int × Dl01Cur) := runF E1 H1 k 86 s_spec_l01Below x
noncomputable def c_impl_IsTxn (k : Nat) (x : (DDisk × (List DWrite))) : Option Bool := runF E1 H1 k 87 s_impl_IsTxn x
noncomputable def c_spec_PadTo (k : Nat) (x : DerrorAddressString) : Option ByteArray := runF E1 H1 k 93 s_spec_PadTo x
noncomputable def c_spec_l02Bytes (k : Nat) (x : (Dl01Cur × Int)) : Option (ByteArray × Dl01Cur) := runF E1 H1 k 115 s_spec_l02Bytes x
noncomputable def c_strings_Repeat (k : Nat) (x : DerrorAddressString) : Option ByteArray := runF E1 H1 k 116 s_strings_Repeat x
noncomputable def c_spec_l01Pick (k : Nat) (x : (Dl01Cur × (List Int))) : Option (Int × Dl01Cur) := runF E1 H1 k 141 s_spec_l01Pick x
theorem c_slices_Clone_string_string_run (k : Nat) (x) : c_slices_Clone_string_string (k + 1) x = ext_slices_Clone_string_string x := by kernel_rfl
theorem c_slices_Clone_impl_Write_impl_Write_run (k : Nat) (x) : c_slices_Clone_impl_Write_impl_Write (k + 1) x = ext_slices_Clone_impl_Write_impl_Write x := by kernel_rfl
theorem c_strings_Repeat_run (k : Nat) (x) : c_strings_Repeat (k + 1) x = ext_strings_Repeat x := by kernel_rfl
end Go.Proofs.Ytdbemlllcdpdbaa
