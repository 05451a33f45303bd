/- The tables, the residual functions and lemmas of this seat: parts of the proof of the law; conditions: those that each names. -/
import Derived.Test.YtnbipilpdhhhmaaDoorEng4
import Derived.KernelRfl
import Derived.Test.YtnbipilpdhhhmaaDoorProg
set_option maxRecDepth 100000
namespace Go.Proofs.YtnbipilpdhhhmaaDoor
open Go.Eng
abbrev DQuota : Type := (Int × Int)
abbrev DerrorAddressString : Type := (ByteArray × Int)
abbrev DAclEntry : Type := (Int × DQuota)
abbrev DboundsError : Type := (Int × (Int × (Bool × Int)))
abbrev DArchiveItem : Type := (Bool × (ByteArray × (Int × ((List DAclEntry) × ByteArray))))
abbrev DInode : Type := (Int × (Int × (Int × (Int × (Int × (Int × (Int × ((List Int) × ((List DAclEntry) × (List DAclEntry))))))))))
abbrev DFS : Type := (Int × ((List DQuota) × ((List DInode) × (List ByteArray))))
abbrev TerrorAddressStringk : Ty := (.pair .str (.int .u64))
abbrev TQuotak : Ty := (.pair (.int .i64) (.int .i64))
abbrev TAclEntryk : Ty := (.pair (.int .i64) TQuotak)
abbrev TboundsErrork : Ty := (.pair (.int .i64) (.pair (.int .i64) (.pair .bool (.int .u8))))
abbrev TArchiveItemo : Ty := (.pair .bool (.pair .str (.pair (.int .i64) (.pair (.list true TAclEntryk) .str))))
abbrev TArchiveItemk : Ty := (.pair .bool (.pair .str (.pair (.int .i64) (.pair (.list false TAclEntryk) .str))))
abbrev TInodeo : Ty := (.pair (.int .i64) (.pair (.int .i64) (.pair (.int .i64) (.pair (.int .i64) (.pair (.int .i64) (.pair (.int .i64) (.pair (.int .i64) (.pair (.list true (.int .i64)) (.pair (.list true TAclEntryk) (.list true TAclEntryk))))))))))
abbrev TInodek : Ty := (.pair (.int .i64) (.pair (.int .i64) (.pair (.int .i64) (.pair (.int .i64) (.pair (.int .i64) (.pair (.int .i64) (.pair (.int .i64) (.pair (.list false (.int .i64)) (.pair (.list false TAclEntryk) (.list false TAclEntryk))))))))))
abbrev TFSo : Ty := (.pair (.int .i64) (.pair (.list true TQuotak) (.pair (.list true TInodeo) (.list true .str))))
abbrev TFSk : Ty := (.pair (.int .i64) (.pair (.list false TQuotak) (.pair (.list false TInodek) (.list false .str))))
abbrev s_laws_FnExactUsageText : Sig := ⟨[.val TFSk, .val (.int .i64)], [.bool], none⟩
abbrev s_laws_szFS : Sig := ⟨[.val TFSk, .val (.int .i64)], [(.int .i64)], none⟩
abbrev s_spec_UsageText : Sig := ⟨[.val TFSk, .val (.int .i64)], [.str], none⟩
abbrev s_laws_toFS : Sig := ⟨[.val TFSk], [TFSo], none⟩
abbrev s_impl_UsageText : Sig := ⟨[.val TFSk, .val (.int .i64)], [.str], none⟩
abbrev s_laws_eqFS : Sig := ⟨[.val TFSk, .val TFSk], [.bool], none⟩
abbrev s_laws_szAclEntryS : Sig := ⟨[.val (.list false TAclEntryk), .val (.int .i64)], [(.int .i64)], none⟩
abbrev s_spec_l06Mode : Sig := ⟨[.val (.int .i64)], [.bool], none⟩
abbrev s_spec_IsAcl : Sig := ⟨[.val (.list false TAclEntryk)], [.bool], none⟩
abbrev s_laws_toAclEntryS : Sig := ⟨[.val (.list false TAclEntryk)], [(.list true TAclEntryk)], none⟩
abbrev s_laws_eqAclEntryS : Sig := ⟨[.val (.list false TAclEntryk), .val (.list false TAclEntryk)], [.bool], none⟩
abbrev s_laws_szQuotaS : Sig := ⟨[.val (.list false TQuotak), .val (.int .i64)], [(.int .i64)], none⟩
abbrev s_laws_szInodeS : Sig := ⟨[.val (.list false TInodek), .val (.int .i64)], [(.int .i64)], none⟩
abbrev s_laws_szStringS : Sig := ⟨[.val (.list false .str), .val (.int .i64)], [(.int .i64)], none⟩
abbrev s_spec_IsFS : Sig := ⟨[.val TFSk], [.bool], none⟩
abbrev s_spec_l06User : Sig := ⟨[.val (.int .i64)], [.bool], none⟩
abbrev s_spec_FormatInt : Sig := ⟨[.val (.int .i64)], [.str], none⟩
abbrev s_spec_l08Inodes : Sig := ⟨[.val TFSk, .val (.int .i64)], [(.int .i64)], none⟩
abbrev s_spec_l08Blocks : Sig := ⟨[.val TFSk, .val (.int .i64)], [(.int .i64)], none⟩
abbrev s_laws_toQuotaS : Sig := ⟨[.val (.list false TQuotak)], [(.list true TQuotak)], none⟩
abbrev s_laws_toInodeS : Sig := ⟨[.val (.list false TInodek)], [(.list true TInodeo)], none⟩
abbrev s_laws_toStringS : Sig := ⟨[.val (.list false .str)], [(.list true .str)], none⟩
abbrev s_impl_IsFS : Sig := ⟨[.val TFSk], [.bool], none⟩
abbrev s_impl_isUser : Sig := ⟨[.val (.int .i64)], [.bool], none⟩
abbrev s_impl_FormatInt : Sig := ⟨[.val (.int .i64)], [.str], none⟩
abbrev s_impl_FS_inodes : Sig := ⟨[.val (.ptr TFSk), .val (.int .i64)], [(.int .i64)], none⟩
abbrev s_impl_FS_blocks : Sig := ⟨[.val (.ptr TFSk), .val (.int .i64)], [(.int .i64)], none⟩
abbrev s_laws_eqQuotaS : Sig := ⟨[.val (.list false TQuotak), .val (.list false TQuotak)], [.bool], none⟩
abbrev s_laws_eqInodeS : Sig := ⟨[.val (.list false TInodek), .val (.list false TInodek)], [.bool], none⟩
abbrev s_laws_eqStringS : Sig := ⟨[.val (.list false .str), .val (.list false .str)], [.bool], none⟩
abbrev s_spec_l01In : Sig := ⟨[.val (.int .i64), .val (.int .i64), .val (.int .i64)], [.bool], none⟩
abbrev s_spec_l05Entry : Sig := ⟨[.val TAclEntryk], [.bool], none⟩
abbrev s_laws_toAclEntry : Sig := ⟨[.val TAclEntryk], [TAclEntryk], none⟩
abbrev s_impl_isMode : Sig := ⟨[.val (.int .i64)], [.bool], none⟩
abbrev s_impl_IsAcl : Sig := ⟨[.val (.list false TAclEntryk)], [.bool], none⟩
abbrev s_laws_eqAclEntry : Sig := ⟨[.val TAclEntryk, .val TAclEntryk], [.bool], none⟩
abbrev s_laws_szInode : Sig := ⟨[.val TInodek, .val (.int .i64)], [(.int .i64)], none⟩
abbrev s_spec_IsInode : Sig := ⟨[.val TInodek], [.bool], none⟩
abbrev s_spec_l08Used : Sig := ⟨[.val TFSk], [(.list true .bool), .bool], none⟩
abbrev s_spec_IsZeroes : Sig := ⟨[.val .str], [.bool], none⟩
abbrev s_spec_BlockOwner : Sig := ⟨[.val (.int .i64)], [(.int .i64)], none⟩
abbrev s_laws_toQuota : Sig := ⟨[.val TQuotak], [TQuotak], none⟩
abbrev s_laws_toInode : Sig := ⟨[.val TInodek], [TInodeo], none⟩
abbrev s_impl_IsInode : Sig := ⟨[.val TInodek], [.bool], none⟩
abbrev s_impl_BlockOwner : Sig := ⟨[.val (.int .i64)], [(.int .i64)], none⟩
abbrev s_impl_IsZeroes : Sig := ⟨[.val .str], [.bool], none⟩
abbrev s_strconv_Itoa : Sig := ⟨[.val (.int .i64)], [.str], none⟩
abbrev s_impl_FS_taken : Sig := ⟨[.val (.ptr TFSk)], [(.list true .bool)], none⟩
abbrev s_laws_eqQuota : Sig := ⟨[.val TQuotak, .val TQuotak], [.bool], none⟩
abbrev s_laws_eqInode : Sig := ⟨[.val TInodek, .val TInodek], [.bool], none⟩
abbrev s_cmp_Or_int : Sig := ⟨[.val (.list false (.int .i64))], [(.int .i64)], none⟩
abbrev s_cmp_Compare_int : Sig := ⟨[.val (.int .i64), .val (.int .i64)], [(.int .i64)], none⟩
abbrev s_laws_szIntS : Sig := ⟨[.val (.list false (.int .i64)), .val (.int .i64)], [(.int .i64)], none⟩
abbrev s_spec_SameInode : Sig := ⟨[.val TInodek, .val TInodek], [.bool], none⟩
abbrev s_spec_BlocksNeeded : Sig := ⟨[.val (.int .i64)], [(.int .i64)], none⟩
abbrev s_spec_l02Has : Sig := ⟨[.val (.list false (.int .i64)), .val (.int .i64)], [.bool], none⟩
abbrev s_laws_toIntS : Sig := ⟨[.val (.list false (.int .i64))], [(.list true (.int .i64))], none⟩
abbrev s_impl_SameInode : Sig := ⟨[.val TInodek, .val TInodek], [.bool], none⟩
abbrev s_impl_BlocksNeeded : Sig := ⟨[.val (.int .i64)], [(.int .i64)], none⟩
abbrev s_slices_Contains_int_int : Sig := ⟨[.val (.list false (.int .i64)), .val (.int .i64)], [.bool], none⟩
abbrev s_impl_UsedBlocks : Sig := ⟨[.val TInodek], [(.list true (.int .i64))], none⟩
abbrev s_laws_eqIntS : Sig := ⟨[.val (.list false (.int .i64)), .val (.list false (.int .i64))], [.bool], none⟩
abbrev s_cmp_isNaN_int : Sig := ⟨[.val (.int .i64)], [.bool], none⟩
abbrev s_spec_l02Same : Sig := ⟨[.val (.list false (.int .i64)), .val (.list false (.int .i64))], [.bool], none⟩
abbrev s_spec_l05Same : Sig := ⟨[.val (.list false TAclEntryk), .val (.list false TAclEntryk)], [.bool], none⟩
abbrev s_slices_Equal_int_int : Sig := ⟨[.val (.list false (.int .i64)), .val (.list false (.int .i64))], [.bool], none⟩
abbrev s_slices_Equal_impl_AclEntry_impl_AclEntry : Sig := ⟨[.val (.list false TAclEntryk), .val (.list false TAclEntryk)], [.bool], none⟩
abbrev s_slices_Index_int_int : Sig := ⟨[.val (.list false (.int .i64)), .val (.int .i64)], [(.int .i64)], none⟩
noncomputable def exts : List ExtE := [⟨73, s_strconv_Itoa, ext_strconv_Itoa⟩]
noncomputable def tab : Tab := {
  ty := [(2, (.int .i64)), (3, (.int .i64)), (4, .bool), (5, (.int .u8)), (9, .str), (22, (.list false TAclEntryk)), (27, (.list false TAclEntryk)), (33, (.list false TQuotak)), (34, (.list false TInodek)), (35, (.list false .str)), (37, TFSk), (40, (.list false TQuotak)), (41, (.list false TInodek)), (43, TFSk), (63, TQuotak), (75, TAclEntryk), (79, (.list false (.int .u8))), (81, TAclEntryk), (84, (.list false (.int .i64))), (86, TInodek), (88, TInodek), (90, (.list false .bool)), (94, TQuotak), (96, (.arr 56 .bool)), (97, (.ptr TFSk))],
  nf := [(37, 4), (43, 4), (63, 2), (75, 3), (81, 3), (86, 10), (88, 10), (94, 2)],
  el := [(27, 75, 24), (35, 9, 16), (40, 63, 16), (41, 88, 128), (84, 3, 8), (90, 4, 1)],
  fnT := [1],
  eqs := [63, 75, 81, 94],
  sig := [(4, s_laws_FnExactUsageText), (10, s_laws_szFS), (11, s_spec_UsageText), (12, s_laws_toFS), (13, s_impl_UsageText), (14, s_laws_eqFS), (15, s_laws_szAclEntryS), (17, s_spec_l06Mode), (18, s_spec_IsAcl), (23, s_laws_toAclEntryS), (28, s_laws_eqAclEntryS), (29, s_laws_szQuotaS), (30, s_laws_szInodeS), (31, s_laws_szStringS), (32, s_spec_IsFS), (33, s_spec_l06User), (34, s_spec_FormatInt), (35, s_spec_l08Inodes), (36, s_spec_l08Blocks), (37, s_laws_toQuotaS), (38, s_laws_toInodeS), (39, s_laws_toStringS), (40, s_impl_IsFS), (41, s_impl_isUser), (42, s_impl_FormatInt), (43, s_impl_FS_inodes), (44, s_impl_FS_blocks), (45, s_laws_eqQuotaS), (46, s_laws_eqInodeS), (47, s_laws_eqStringS), (50, s_spec_l01In), (51, s_spec_l05Entry), (54, s_laws_toAclEntry), (58, s_impl_isMode), (59, s_impl_IsAcl), (62, s_laws_eqAclEntry), (63, s_laws_szInode), (64, s_spec_IsInode), (65, s_spec_l08Used), (66, s_spec_IsZeroes), (67, s_spec_BlockOwner), (68, s_laws_toQuota), (69, s_laws_toInode), (70, s_impl_IsInode), (71, s_impl_BlockOwner), (72, s_impl_IsZeroes), (73, s_strconv_Itoa), (74, s_impl_FS_taken), (75, s_laws_eqQuota), (76, s_laws_eqInode), (80, s_cmp_Or_int), (81, s_cmp_Compare_int), (83, s_laws_szIntS), (84, s_spec_SameInode), (85, s_spec_BlocksNeeded), (86, s_spec_l02Has), (87, s_laws_toIntS), (88, s_impl_SameInode), (89, s_impl_BlocksNeeded), (90, s_slices_Contains_int_int), (92, s_impl_UsedBlocks), (93, s_laws_eqIntS), (96, s_cmp_isNaN_int), (100, s_spec_l02Same), (101, s_spec_l05Same), (102, s_slices_Equal_int_int), (103, s_slices_Equal_impl_AclEntry_impl_AclEntry), (104, s_slices_Index_int_int)],
  body := [(4, Tryd.f4), (10, Tryd.f10), (11, Tryd.f11), (12, Tryd.f12), (13, Tryd.f13), (14, Tryd.f14), (15, Tryd.f15), (17, Tryd.f17), (18, Tryd.f18), (23, Tryd.f23), (28, Tryd.f28), (29, Tryd.f29), (30, Tryd.f30), (31, Tryd.f31), (32, Tryd.f32), (33, Tryd.f33), (34, Tryd.f34), (35, Tryd.f35), (36, Tryd.f36), (37, Tryd.f37), (38, Tryd.f38), (39, Tryd.f39), (40, Tryd.f40), (41, Tryd.f41), (42, Tryd.f42), (43, Tryd.f43), (44, Tryd.f44), (45, Tryd.f45), (46, Tryd.f46), (47, Tryd.f47), (50, Tryd.f50), (51, Tryd.f51), (54, Tryd.f54), (58, Tryd.f58), (59, Tryd.f59), (62, Tryd.f62), (63, Tryd.f63), (64, Tryd.f64), (65, Tryd.f65), (66, Tryd.f66), (67, Tryd.f67), (68, Tryd.f68), (69, Tryd.f69), (70, Tryd.f70), (71, Tryd.f71), (72, Tryd.f72), (74, Tryd.f74), (75, Tryd.f75), (76, Tryd.f76), (80, Tryd.f80), (81, Tryd.f81), (83, Tryd.f83), (84, Tryd.f84), (85, Tryd.f85), (86, Tryd.f86), (87, Tryd.f87), (88, Tryd.f88), (89, Tryd.f89), (90, Tryd.f90), (92, Tryd.f92), (93, Tryd.f93), (96, Tryd.f96), (100, Tryd.f100), (101, Tryd.f101), (102, Tryd.f102), (103, Tryd.f103), (104, Tryd.f104)] }
noncomputable def E1 : Env := tab.env (extOf exts)
noncomputable def H1 : Nat → Hints := fun f => (Eng.look [(18, ⟨fun r => (Eng.look [(2, [(0, none), (6, none), (7, none), (8, none)])] r).getD [], fun r => Eng.look [] r⟩),
  (23, ⟨fun r => (Eng.look [(3, [(0, none), (3, none), (4, none)])] r).getD [], fun r => Eng.look [] r⟩),
  (28, ⟨fun r => (Eng.look [(4, [(0, none), (1, none), (5, none)])] r).getD [], fun r => Eng.look [] r⟩),
  (30, ⟨fun r => (Eng.look [(5, [(0, none), (1, none), (5, none)])] r).getD [], fun r => Eng.look [] r⟩),
  (31, ⟨fun r => (Eng.look [(5, [(0, none), (1, none), (5, none)])] r).getD [], fun r => Eng.look [] r⟩),
  (32, ⟨fun r => (Eng.look [(4, [(1, none), (37, none), (38, none), (39, none)]), (10, [(1, none), (55, none), (56, none), (57, none)]), (21, [(1, none), (7, none), (79, none), (80, none), (81, none)]), (27, [(1, none), (103, none), (104, none), (105, none)])] r).getD [], fun r => Eng.look [] r⟩),
  (34, ⟨fun r => (Eng.look [(6, [(0, none), (3, none)])] r).getD [], fun r => Eng.look [] r⟩),
  (35, ⟨fun r => (Eng.look [(3, [(1, none), (2, none), (5, none), (6, none)])] r).getD [], fun r => Eng.look [] r⟩),
  (36, ⟨fun r => (Eng.look [(3, [(1, none), (5, none), (11, none), (12, none), (13, none)]), (6, [(1, none), (5, none), (11, none), (12, none), (13, none), (18, none), (19, none), (20, none)])] r).getD [], fun r => Eng.look [] r⟩),
  (37, ⟨fun r => (Eng.look [(3, [(0, none), (3, none), (4, none)])] r).getD [], fun r => Eng.look [] r⟩),
  (38, ⟨fun r => (Eng.look [(3, [(0, none), (3, none), (4, none)])] r).getD [], fun r => Eng.look [] r⟩),
  (39, ⟨fun r => (Eng.look [(3, [(0, none), (3, none), (4, none)])] r).getD [], fun r => Eng.look [] r⟩),
  (40, ⟨fun r => (Eng.look [(4, [(1, none), (42, none), (43, none), (44, none)]), (10, [(1, none), (68, none), (69, none), (70, none)]), (17, [(1, none), (7, none), (79, none), (80, none), (81, none)]), (22, [(1, none), (7, none), (9, none), (79, none), (80, none), (81, none), (89, none), (90, none), (91, none)]), (34, [(1, none), (7, none), (131, none), (132, none), (133, none)])] r).getD [], fun r => Eng.look [] r⟩),
  (43, ⟨fun r => (Eng.look [(3, [(5, none), (17, none), (18, none), (19, none)])] r).getD [], fun r => Eng.look [] r⟩),
  (44, ⟨fun r => (Eng.look [(3, [(5, none), (15, none), (16, none), (17, none)])] r).getD [], fun r => Eng.look [] r⟩),
  (45, ⟨fun r => (Eng.look [(4, [(0, none), (1, none), (5, none)])] r).getD [], fun r => Eng.look [] r⟩),
  (46, ⟨fun r => (Eng.look [(4, [(0, none), (1, none), (5, none)])] r).getD [], fun r => Eng.look [] r⟩),
  (47, ⟨fun r => (Eng.look [(4, [(0, none), (1, none), (5, none)])] r).getD [], fun r => Eng.look [] r⟩),
  (59, ⟨fun r => (Eng.look [(4, [(0, none), (8, none), (9, none), (10, none)])] r).getD [], fun r => Eng.look [(17, [(0, none), (3, none), (4, none), (8, none), (9, none), (10, none)])] r⟩),
  (64, ⟨fun r => (Eng.look [(6, [(1, none), (65, none), (66, none), (67, none)])] r).getD [], fun r => Eng.look [(5, [(1, none)]), (13, [(1, none)])] r⟩),
  (65, ⟨fun r => (Eng.look [(3, [(4, none), (11, none), (12, none), (13, none)]), (6, [(4, none), (6, none), (11, none), (12, none), (13, none), (18, none), (19, none), (20, none)])] r).getD [], fun r => Eng.look [] r⟩),
  (66, ⟨fun r => (Eng.look [(2, [(0, none), (3, none)])] r).getD [], fun r => Eng.look [] r⟩),
  (70, ⟨fun r => (Eng.look [(10, [(1, none), (83, none), (84, none), (85, none)])] r).getD [], fun r => Eng.look [(7, [(1, none)])] r⟩),
  (72, ⟨fun r => (Eng.look [(2, [(0, none), (5, none), (6, none)])] r).getD [], fun r => Eng.look [] r⟩),
  (74, ⟨fun r => (Eng.look [(3, [(3, none), (12, none), (13, none), (14, none)]), (6, [(3, none), (12, none), (13, none), (14, none), (19, none), (20, none), (21, none)])] r).getD [], fun r => Eng.look [] r⟩),
  (80, ⟨fun r => (Eng.look [(3, [(3, none), (6, none), (7, none), (8, none)])] r).getD [], fun r => Eng.look [] r⟩),
  (86, ⟨fun r => (Eng.look [(2, [(1, none), (7, none), (8, none), (9, none)])] r).getD [], fun r => Eng.look [] r⟩),
  (87, ⟨fun r => (Eng.look [(3, [(0, none), (3, none), (4, none)])] r).getD [], fun r => Eng.look [] r⟩),
  (92, ⟨fun r => (Eng.look [(3, [(3, none), (8, none), (9, none), (10, none)])] r).getD [], fun r => Eng.look [] r⟩),
  (93, ⟨fun r => (Eng.look [(4, [(0, none), (1, none), (5, none)])] r).getD [], fun r => Eng.look [] r⟩),
  (100, ⟨fun r => (Eng.look [(4, [(1, none), (12, none), (13, none), (14, none)])] r).getD [], fun r => Eng.look [] r⟩),
  (101, ⟨fun r => (Eng.look [(4, [(1, none), (12, none), (13, none), (14, none)])] r).getD [], fun r => Eng.look [] r⟩),
  (102, ⟨fun r => (Eng.look [(4, [(0, none), (1, none), (12, none), (13, none)])] r).getD [], fun r => Eng.look [] r⟩),
  (103, ⟨fun r => (Eng.look [(4, [(0, none), (1, none), (12, none), (13, none)])] r).getD [], fun r => Eng.look [] r⟩),
  (104, ⟨fun r => (Eng.look [(2, [(0, none), (1, none), (7, none), (8, none)])] r).getD [], fun r => Eng.look [] r⟩)] f).getD ⟨fun _ => [], fun _ => none⟩
noncomputable def c_laws_FnExactUsageText (k : Nat) (x : (DFS × Int)) : Option Bool := runF E1 H1 k 4 s_laws_FnExactUsageText x
noncomputable def c_laws_szFS (k : Nat) (x : (DFS × Int)) : Option Int := runF E1 H1 k 10 s_laws_szFS x
noncomputable def c_spec_UsageText (k : Nat) (x : (DFS × Int)) : Option ByteArray := runF E1 H1 k 11 s_spec_UsageText x
noncomputable def c_laws_toFS (k : Nat) (x : DFS) : Option DFS := runF E1 H1 k 12 s_laws_toFS x
noncomputable def c_impl_UsageText (k : Nat) (x : (DFS × Int)) : Option ByteArray := runF E1 H1 k 13 s_impl_UsageText x
noncomputable def c_laws_eqFS (k : Nat) (x : (DFS × DFS)) : Option Bool := runF E1 H1 k 14 s_laws_eqFS x
noncomputable def c_laws_szAclEntryS (k : Nat) (x : ((List DAclEntry) × Int)) : Option Int := runF E1 H1 k 15 s_laws_szAclEntryS x
noncomputable def c_spec_l06Mode (k : Nat) (x : Int) : Option Bool := runF E1 H1 k 17 s_spec_l06Mode x
noncomputable def c_spec_IsAcl (k : Nat) (x : (List DAclEntry)) : Option Bool := runF E1 H1 k 18 s_spec_IsAcl x
noncomputable def c_laws_toAclEntryS (k : Nat) (x : (List DAclEntry)) : Option (List DAclEntry) := runF E1 H1 k 23 s_laws_toAclEntryS x
noncomputable def c_laws_eqAclEntryS (k : Nat) (x : ((List DAclEntry) × (List DAclEntry))) : Option Bool := runF E1 H1 k 28 s_laws_eqAclEntryS x
noncomputable def c_laws_szQuotaS (k : Nat) (x : ((List DQuota) × Int)) : Option Int := runF E1 H1 k 29 s_laws_szQuotaS x
noncomputable def c_laws_szInodeS (k : Nat) (x : ((List DInode) × Int)) : Option Int := runF E1 H1 k 30 s_laws_szInodeS x
noncomputable def c_laws_szStringS (k : Nat) (x : ((List ByteArray) × Int)) : Option Int := runF E1 H1 k 31 s_laws_szStringS x
noncomputable def c_spec_IsFS (k : Nat) (x : DFS) : Option Bool := runF E1 H1 k 32 s_spec_IsFS x
noncomputable def c_spec_l06User (k : Nat) (x : Int) : Option Bool := runF E1 H1 k 33 s_spec_l06User x
noncomputable def c_spec_FormatInt (k : Nat) (x : Int) : Option ByteArray := runF E1 H1 k 34 s_spec_FormatInt x
noncomputable def c_spec_l08Inodes (k : Nat) (x : (DFS × Int)) : Option Int := runF E1 H1 k 35 s_spec_l08Inodes x
noncomputable def c_spec_l08Blocks (k : Nat) (x : (DFS × Int)) : Option Int := runF E1 H1 k 36 s_spec_l08Blocks x
noncomputable def c_laws_toQuotaS (k : Nat) (x : (List DQuota)) : Option (List DQuota) := runF E1 H1 k 37 s_laws_toQuotaS x
noncomputable def c_laws_toInodeS (k : Nat) (x : (List DInode)) : Option (List DInode) := runF E1 H1 k 38 s_laws_toInodeS x
noncomputable def c_laws_toStringS (k : Nat) (x : (List ByteArray)) : Option (List ByteArray) := runF E1 H1 k 39 s_laws_toStringS x
noncomputable def c_impl_IsFS (k : Nat) (x : DFS) : Option Bool := runF E1 H1 k 40 s_impl_IsFS x
noncomputable def c_impl_isUser (k : Nat) (x : Int) : Option Bool := runF E1 H1 k 41 s_impl_isUser x
noncomputable def c_impl_FormatInt (k : Nat) (x : Int) : Option ByteArray := runF E1 H1 k 42 s_impl_FormatInt x
noncomputable def c_impl_FS_inodes (k : Nat) (x : ((Option DFS) × Int)) : Option Int := runF E1 H1 k 43 s_impl_FS_inodes x
noncomputable def c_impl_FS_blocks (k : Nat) (x : ((Option DFS) × Int)) : Option Int := runF E1 H1 k 44 s_impl_FS_blocks x
noncomputable def c_laws_eqQuotaS (k : Nat) (x : ((List DQuota) × (List DQuota))) : Option Bool := runF E1 H1 k 45 s_laws_eqQuotaS x
noncomputable def c_laws_eqInodeS (k : Nat) (x : ((List DInode) × (List DInode))) : Option Bool := runF E1 H1 k 46 s_laws_eqInodeS x
noncomputable def c_laws_eqStringS (k : Nat) (x : ((List ByteArray) × (List ByteArray))) : Option Bool := runF E1 H1 k 47 s_laws_eqStringS x
noncomputable def c_spec_l01In (k : Nat) (x : DAclEntry) : Option Bool := runF E1 H1 k 50 s_spec_l01In x
noncomputable def c_spec_l05Entry (k : Nat) (x : DAclEntry) : Option Bool := runF E1 H1 k 51 s_spec_l05Entry x
noncomputable def c_laws_toAclEntry (k : Nat) (x : DAclEntry) : Option DAclEntry := runF E1 H1 k 54 s_laws_toAclEntry x
noncomputable def c_impl_isMode (k : Nat) (x : Int) : Option Bool := runF E1 H1 k 58 s_impl_isMode x
noncomputable def c_impl_IsAcl (k : Nat) (x : (List DAclEntry)) : Option Bool := runF E1 H1 k 59 s_impl_IsAcl x
noncomputable def c_laws_eqAclEntry (k : Nat) (x : (DAclEntry × DAclEntry)) : Option Bool := runF E1 H1 k 62 s_laws_eqAclEntry x
noncomputable def c_laws_szInode (k : Nat) (x : (DInode × Int)) : Option Int := runF E1 H1 k 63 s_laws_szInode x
noncomputable def c_spec_IsInode (k : Nat) (x : DInode) : Option Bool := runF E1 H1 k 64 s_spec_IsInode x
noncomputable def c_spec_l08Used (k : Nat) (x : DFS) : Option ((List Bool) × Bool) := runF E1 H1 k 65 s_spec_l08Used x
noncomputable def c_spec_IsZeroes (k : Nat) (x : ByteArray) : Option Bool := runF E1 H1 k 66 s_spec_IsZeroes x
noncomputable def c_spec_BlockOwner (k : Nat) (x : Int) : Option Int := runF E1 H1 k 67 s_spec_BlockOwner x
noncomputable def c_laws_toQuota (k : Nat) (x : DQuota) : Option DQuota := runF E1 H1 k 68 s_laws_toQuota x
noncomputable def c_laws_toInode (k : Nat) (x : DInode) : Option DInode := runF E1 H1 k 69 s_laws_toInode x
noncomputable def c_impl_IsInode (k : Nat) (x : DInode) : Option Bool := runF E1 H1 k 70 s_impl_IsInode x
noncomputable def c_impl_BlockOwner (k : Nat) (x : Int) : Option Int := runF E1 H1 k 71 s_impl_BlockOwner x
noncomputable def c_impl_IsZeroes (k : Nat) (x : ByteArray) : Option Bool := runF E1 H1 k 72 s_impl_IsZeroes x
noncomputable def c_strconv_Itoa (k : Nat) (x : Int) : Option ByteArray := runF E1 H1 k 73 s_strconv_Itoa x
noncomputable def c_impl_FS_taken (k : Nat) (x : (Option DFS)) : Option (List Bool) := runF E1 H1 k 74 s_impl_FS_taken x
noncomputable def c_laws_eqQuota (k : Nat) (x : (DQuota × DQuota)) : Option Bool := runF E1 H1 k 75 s_laws_eqQuota x
noncomputable def c_laws_eqInode (k : Nat) (x : (DInode × DInode)) : Option Bool := runF E1 H1 k 76 s_laws_eqInode x
noncomputable def c_cmp_Or_int (k : Nat) (x : (List Int)) : Option Int := runF E1 H1 k 80 s_cmp_Or_int x
noncomputable def c_cmp_Compare_int (k : Nat) (x : DQuota) : Option Int := runF E1 H1 k 81 s_cmp_Compare_int x
noncomputable def c_laws_szIntS (k : Nat) (x : ((List Int) × Int)) : Option Int := runF E1 H1 k 83 s_laws_szIntS x
noncomputable def c_spec_SameInode (k : Nat) (x : (DInode × DInode)) : Option Bool := runF E1 H1 k 84 s_spec_SameInode x
noncomputable def c_spec_BlocksNeeded (k : Nat) (x : Int) : Option Int := runF E1 H1 k 85 s_spec_BlocksNeeded x
noncomputable def c_spec_l02Has (k : Nat) (x : ((List Int) × Int)) : Option Bool := runF E1 H1 k 86 s_spec_l02Has x
noncomputable def c_laws_toIntS (k : Nat) (x : (List Int)) : Option (List Int) := runF E1 H1 k 87 s_laws_toIntS x
noncomputable def c_impl_SameInode (k : Nat) (x : (DInode × DInode)) : Option Bool := runF E1 H1 k 88 s_impl_SameInode x
noncomputable def c_impl_BlocksNeeded (k : Nat) (x : Int) : Option Int := runF E1 H1 k 89 s_impl_BlocksNeeded x
noncomputable def c_slices_Contains_int_int (k : Nat) (x : ((List Int) × Int)) : Option Bool := runF E1 H1 k 90 s_slices_Contains_int_int x
noncomputable def c_impl_UsedBlocks (k : Nat) (x : DInode) : Option (List Int) := runF E1 H1 k 92 s_impl_UsedBlocks x
noncomputable def c_laws_eqIntS (k : Nat) (x : ((List Int) × (List Int))) : Option Bool := runF E1 H1 k 93 s_laws_eqIntS x
noncomputable def c_cmp_isNaN_int (k : Nat) (x : Int) : Option Bool := runF E1 H1 k 96 s_cmp_isNaN_int x
noncomputable def c_spec_l02Same (k : Nat) (x : ((List Int) × (List Int))) : Option Bool := runF E1 H1 k 100 s_spec_l02Same x
noncomputable def c_spec_l05Same (k : Nat) (x : ((List DAclEntry) × (List DAclEntry))) : Option Bool := runF E1 H1 k 101 s_spec_l05Same x
noncomputable def c_slices_Equal_int_int (k : Nat) (x : ((List Int) × (List Int))) : Option Bool := runF E1 H1 k 102 s_slices_Equal_int_int x
noncomputable def c_slices_Equal_impl_AclEntry_impl_AclEntry (k : Nat) (x : ((List DAclEntry) × (List DAclEntry))) : Option Bool := runF E1 H1 k 103 s_slices_Equal_impl_AclEntry_impl_AclEntry x
noncomputable def c_slices_Index_int_int (k : Nat) (x : ((List Int) × Int)) : Option Int := runF E1 H1 k 104 s_slices_Index_int_int x
theorem c_strconv_Itoa_run (k : Nat) (x) : c_strconv_Itoa (k + 1) x = ext_strconv_Itoa x := by kernel_rfl
end Go.Proofs.YtnbipilpdhhhmaaDoor
