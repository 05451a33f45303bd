/- The tables, the residual functions and lemmas of this seat: parts of the proof of the law; conditions: those that each names. -/
import Derived.Test.YtnbipilpdhhhmaaEng4
import Derived.KernelRfl
import Derived.Test.YtnbipilpdhhhmaaProg
set_option maxRecDepth 100000
namespace Go.Proofs.Ytnbipilpdhhhmaa
open Go.Eng
abbrev DQuota : Type := (Int × Int)
abbrev DerrorAddressString : Type := (ByteArray × Int)
abbrev DWrite : Type := (Int × ByteArray)
abbrev DAclEntry : Type := (Int × DQuota)
abbrev Dl01Cur : Type := ((List Int) × DQuota)
abbrev DStep : Type := (Bool × DWrite)
abbrev DboundsError : Type := (Int × (Int × (Bool × Int)))
abbrev DDisk : Type := ((List ByteArray) × (List DWrite))
abbrev DInode : Type := (Int × (Int × (Int × (Int × (Int × (Int × (Int × ((List Int) × ((List DAclEntry) × (List DAclEntry))))))))))
abbrev DFS : Type := (Int × ((List DQuota) × ((List DInode) × (List ByteArray))))
abbrev TerrorAddressStringk : Ty := (.pair .str (.int .u64))
abbrev TWritek : Ty := (.pair (.int .i64) .str)
abbrev TQuotak : Ty := (.pair (.int .i64) (.int .i64))
abbrev TStepk : Ty := (.pair .bool TWritek)
abbrev TAclEntryk : Ty := (.pair (.int .i64) TQuotak)
abbrev TDisko : Ty := (.pair (.list true .str) (.list true TWritek))
abbrev Tl01Curo : Ty := (.pair (.list true (.int .u8)) TQuotak)
abbrev TboundsErrork : Ty := (.pair (.int .i64) (.pair (.int .i64) (.pair .bool (.int .u8))))
abbrev Tl01Curk : Ty := (.pair (.list false (.int .u8)) TQuotak)
abbrev TDiskk : Ty := (.pair (.list false .str) (.list false TWritek))
abbrev TInodeo : Ty := (.pair (.int .i64) (.pair (.int .i64) (.pair (.int .i64) (.pair (.int .i64) (.pair (.int .i64) (.pair (.int .i64) (.pair (.int .i64) (.pair (.list true (.int .i64)) (.pair (.list true TAclEntryk) (.list true TAclEntryk))))))))))
abbrev TInodek : Ty := (.pair (.int .i64) (.pair (.int .i64) (.pair (.int .i64) (.pair (.int .i64) (.pair (.int .i64) (.pair (.int .i64) (.pair (.int .i64) (.pair (.list false (.int .i64)) (.pair (.list false TAclEntryk) (.list false TAclEntryk))))))))))
abbrev TFSo : Ty := (.pair (.int .i64) (.pair (.list true TQuotak) (.pair (.list true TInodeo) (.list true .str))))
abbrev TFSk : Ty := (.pair (.int .i64) (.pair (.list false TQuotak) (.pair (.list false TInodek) (.list false .str))))
abbrev s_laws_FnExactPoolOf : Sig := ⟨[.val TFSk, .val (.int .i64)], [.bool], none⟩
abbrev s_laws_FnExactSuperText : Sig := ⟨[.val TFSk], [.bool], none⟩
abbrev s_impl_BlockOwner : Sig := ⟨[.val (.int .i64)], [(.int .i64)], none⟩
abbrev s_impl_IsZeroes : Sig := ⟨[.val .str], [.bool], none⟩
abbrev s_impl_PoolOf : Sig := ⟨[.val TFSk, .val (.int .i64)], [(.list true (.int .i64))], none⟩
abbrev s_impl_IsFS : Sig := ⟨[.val TFSk], [.bool], none⟩
abbrev s_laws_szFS : Sig := ⟨[.val TFSk, .val (.int .i64)], [(.int .i64)], none⟩
abbrev s_spec_PoolOf : Sig := ⟨[.val TFSk, .val (.int .i64)], [(.list true (.int .i64))], none⟩
abbrev s_laws_toFS : Sig := ⟨[.val TFSk], [TFSo], none⟩
abbrev s_laws_eqIntS : Sig := ⟨[.val (.list false (.int .i64)), .val (.list false (.int .i64))], [.bool], none⟩
abbrev s_laws_eqFS : Sig := ⟨[.val TFSk, .val TFSk], [.bool], none⟩
abbrev s_laws_markFS : Sig := ⟨[.val TFSo, .val (.int .i64)], [(.int .i64)], none⟩
abbrev s_laws_markIntS : Sig := ⟨[.val (.int .i64)], [(.int .i64)], some (false, (.list true (.int .i64)))⟩
abbrev s_laws_heldIntS : Sig := ⟨[.val (.list false (.int .i64)), .val (.int .i64)], [(.int .i64)], none⟩
abbrev s_spec_SuperText : Sig := ⟨[.val TFSk], [.str], none⟩
abbrev s_impl_SuperText : Sig := ⟨[.val TFSk], [.str], none⟩
abbrev s_impl_isUser : Sig := ⟨[.val (.int .i64)], [.bool], none⟩
abbrev s_impl_FS_has : Sig := ⟨[.val (.ptr TFSk), .val (.int .i64)], [.bool], none⟩
abbrev s_impl_IsInode : Sig := ⟨[.val TInodek], [.bool], none⟩
abbrev s_laws_szQuotaS : Sig := ⟨[.val (.list false TQuotak), .val (.int .i64)], [(.int .i64)], none⟩
abbrev s_laws_szInodeS : Sig := ⟨[.val (.list false TInodek), .val (.int .i64)], [(.int .i64)], none⟩
abbrev s_laws_szStringS : Sig := ⟨[.val (.list false .str), .val (.int .i64)], [(.int .i64)], none⟩
abbrev s_spec_IsFS : Sig := ⟨[.val TFSk], [.bool], none⟩
abbrev s_spec_l06User : Sig := ⟨[.val (.int .i64)], [.bool], none⟩
abbrev s_laws_toQuotaS : Sig := ⟨[.val (.list false TQuotak)], [(.list true TQuotak)], none⟩
abbrev s_laws_toInodeS : Sig := ⟨[.val (.list false TInodek)], [(.list true TInodeo)], none⟩
abbrev s_laws_toStringS : Sig := ⟨[.val (.list false .str)], [(.list true .str)], none⟩
abbrev s_laws_eqQuotaS : Sig := ⟨[.val (.list false TQuotak), .val (.list false TQuotak)], [.bool], none⟩
abbrev s_laws_eqInodeS : Sig := ⟨[.val (.list false TInodek), .val (.list false TInodek)], [.bool], none⟩
abbrev s_laws_eqStringS : Sig := ⟨[.val (.list false .str), .val (.list false .str)], [.bool], none⟩
abbrev s_laws_markQuotaS : Sig := ⟨[.val (.int .i64)], [(.int .i64)], some (false, (.list true TQuotak))⟩
abbrev s_laws_markInodeS : Sig := ⟨[.val (.int .i64)], [(.int .i64)], some (false, (.list true TInodeo))⟩
abbrev s_laws_markStringS : Sig := ⟨[.val (.int .i64)], [(.int .i64)], some (false, (.list true .str))⟩
abbrev s_spec_l18Super : Sig := ⟨[.val TFSk], [.str], none⟩
abbrev s_impl_FS_super : Sig := ⟨[.val (.ptr TFSk)], [.str], none⟩
abbrev s_impl_SameInode : Sig := ⟨[.val TInodek, .val TInodek], [.bool], none⟩
abbrev s_impl_isMode : Sig := ⟨[.val (.int .i64)], [.bool], none⟩
abbrev s_impl_BlocksNeeded : Sig := ⟨[.val (.int .i64)], [(.int .i64)], none⟩
abbrev s_impl_IsAcl : Sig := ⟨[.val (.list false TAclEntryk)], [.bool], none⟩
abbrev s_slices_Contains_int_int : Sig := ⟨[.val (.list false (.int .i64)), .val (.int .i64)], [.bool], none⟩
abbrev s_laws_szInode : Sig := ⟨[.val TInodek, .val (.int .i64)], [(.int .i64)], none⟩
abbrev s_spec_l01In : Sig := ⟨[.val (.int .i64), .val (.int .i64), .val (.int .i64)], [.bool], none⟩
abbrev s_spec_IsInode : Sig := ⟨[.val TInodek], [.bool], none⟩
abbrev s_spec_l08Used : Sig := ⟨[.val TFSk], [(.list true .bool), .bool], none⟩
abbrev s_spec_IsZeroes : Sig := ⟨[.val .str], [.bool], none⟩
abbrev s_laws_toQuota : Sig := ⟨[.val TQuotak], [TQuotak], none⟩
abbrev s_laws_toInode : Sig := ⟨[.val TInodek], [TInodeo], none⟩
abbrev s_laws_eqQuota : Sig := ⟨[.val TQuotak, .val TQuotak], [.bool], none⟩
abbrev s_laws_eqInode : Sig := ⟨[.val TInodek, .val TInodek], [.bool], none⟩
abbrev s_laws_markAclEntryS : Sig := ⟨[.val (.int .i64)], [(.int .i64)], some (false, (.list true TAclEntryk))⟩
abbrev s_laws_markText : Sig := ⟨[.val (.int .i64)], [.str], none⟩
abbrev s_spec_PutNumber : Sig := ⟨[.val (.int .i64), .val (.int .i64)], [.str], none⟩
abbrev s_spec_PadTo : Sig := ⟨[.val .str, .val (.int .i64)], [.str], none⟩
abbrev s_impl_PutNumber : Sig := ⟨[.val (.int .i64), .val (.int .i64)], [.str], none⟩
abbrev s_impl_PadTo : Sig := ⟨[.val .str, .val (.int .i64)], [.str], none⟩
abbrev s_spec_BlocksNeeded : Sig := ⟨[.val (.int .i64)], [(.int .i64)], none⟩
abbrev s_slices_Equal_int_int : Sig := ⟨[.val (.list false (.int .i64)), .val (.list false (.int .i64))], [.bool], none⟩
abbrev s_slices_Equal_impl_AclEntry_impl_AclEntry : Sig := ⟨[.val (.list false TAclEntryk), .val (.list false TAclEntryk)], [.bool], none⟩
abbrev s_cmp_Or_int : Sig := ⟨[.val (.list false (.int .i64))], [(.int .i64)], none⟩
abbrev s_cmp_Compare_int : Sig := ⟨[.val (.int .i64), .val (.int .i64)], [(.int .i64)], none⟩
abbrev s_slices_Index_int_int : Sig := ⟨[.val (.list false (.int .i64)), .val (.int .i64)], [(.int .i64)], none⟩
abbrev s_laws_szIntS : Sig := ⟨[.val (.list false (.int .i64)), .val (.int .i64)], [(.int .i64)], none⟩
abbrev s_laws_szAclEntryS : Sig := ⟨[.val (.list false TAclEntryk), .val (.int .i64)], [(.int .i64)], none⟩
abbrev s_spec_SameInode : Sig := ⟨[.val TInodek, .val TInodek], [.bool], none⟩
abbrev s_spec_l06Mode : Sig := ⟨[.val (.int .i64)], [.bool], none⟩
abbrev s_spec_l02Has : Sig := ⟨[.val (.list false (.int .i64)), .val (.int .i64)], [.bool], none⟩
abbrev s_spec_IsAcl : Sig := ⟨[.val (.list false TAclEntryk)], [.bool], none⟩
abbrev s_spec_BlockOwner : Sig := ⟨[.val (.int .i64)], [(.int .i64)], none⟩
abbrev s_laws_toIntS : Sig := ⟨[.val (.list false (.int .i64))], [(.list true (.int .i64))], none⟩
abbrev s_laws_toAclEntryS : Sig := ⟨[.val (.list false TAclEntryk)], [(.list true TAclEntryk)], none⟩
abbrev s_laws_eqAclEntryS : Sig := ⟨[.val (.list false TAclEntryk), .val (.list false TAclEntryk)], [.bool], none⟩
abbrev s_strings_Repeat : Sig := ⟨[.val .str, .val (.int .i64)], [.str], none⟩
abbrev s_cmp_isNaN_int : Sig := ⟨[.val (.int .i64)], [.bool], none⟩
abbrev s_spec_l02Same : Sig := ⟨[.val (.list false (.int .i64)), .val (.list false (.int .i64))], [.bool], none⟩
abbrev s_spec_l05Same : Sig := ⟨[.val (.list false TAclEntryk), .val (.list false TAclEntryk)], [.bool], none⟩
abbrev s_spec_l05Entry : Sig := ⟨[.val TAclEntryk], [.bool], none⟩
abbrev s_laws_toAclEntry : Sig := ⟨[.val TAclEntryk], [TAclEntryk], none⟩
abbrev s_laws_eqAclEntry : Sig := ⟨[.val TAclEntryk, .val TAclEntryk], [.bool], none⟩
noncomputable def exts : List ExtE := [⟨154, s_strings_Repeat, ext_strings_Repeat⟩]
noncomputable def tab : Tab := {
  ty := [(2, (.int .i64)), (3, (.int .i64)), (4, .bool), (5, (.int .u8)), (9, .str), (22, (.list false (.int .u8))), (23, (.list false TQuotak)), (24, (.list false TInodek)), (25, (.list false .str)), (27, TFSk), (31, (.list false (.int .i64))), (32, (.list false TAclEntryk)), (34, TInodek), (39, TQuotak), (43, (.list false TQuotak)), (44, (.list false TInodek)), (46, TFSk), (56, (.list false .bool)), (76, (.arr 56 .bool)), (114, (.list false TAclEntryk)), (116, TInodek), (121, TQuotak), (152, TAclEntryk), (167, (.int .u64)), (171, TAclEntryk)],
  nf := [(27, 4), (34, 10), (39, 2), (46, 4), (116, 10), (121, 2), (152, 3), (171, 3)],
  el := [(22, 5, 1), (23, 39, 16), (24, 34, 128), (25, 9, 16), (31, 3, 8), (32, 152, 24), (56, 4, 1)],
  fnT := [1],
  eqs := [39, 121, 152, 171],
  sig := [(4, s_laws_FnExactPoolOf), (6, s_laws_FnExactSuperText), (10, s_impl_BlockOwner), (11, s_impl_IsZeroes), (14, s_impl_PoolOf), (15, s_impl_IsFS), (16, s_laws_szFS), (17, s_spec_PoolOf), (18, s_laws_toFS), (19, s_laws_eqIntS), (20, s_laws_eqFS), (21, s_laws_markFS), (22, s_laws_markIntS), (23, s_laws_heldIntS), (34, s_spec_SuperText), (35, s_impl_SuperText), (38, s_impl_isUser), (43, s_impl_FS_has), (44, s_impl_IsInode), (45, s_laws_szQuotaS), (46, s_laws_szInodeS), (47, s_laws_szStringS), (48, s_spec_IsFS), (49, s_spec_l06User), (50, s_laws_toQuotaS), (51, s_laws_toInodeS), (52, s_laws_toStringS), (53, s_laws_eqQuotaS), (54, s_laws_eqInodeS), (55, s_laws_eqStringS), (56, s_laws_markQuotaS), (57, s_laws_markInodeS), (58, s_laws_markStringS), (71, s_spec_l18Super), (72, s_impl_FS_super), (82, s_impl_SameInode), (83, s_impl_isMode), (84, s_impl_BlocksNeeded), (85, s_impl_IsAcl), (86, s_slices_Contains_int_int), (87, s_laws_szInode), (88, s_spec_l01In), (89, s_spec_IsInode), (90, s_spec_l08Used), (91, s_spec_IsZeroes), (92, s_laws_toQuota), (93, s_laws_toInode), (94, s_laws_eqQuota), (95, s_laws_eqInode), (96, s_laws_markAclEntryS), (97, s_laws_markText), (116, s_spec_PutNumber), (117, s_spec_PadTo), (118, s_impl_PutNumber), (119, s_impl_PadTo), (125, s_spec_BlocksNeeded), (127, s_slices_Equal_int_int), (128, s_slices_Equal_impl_AclEntry_impl_AclEntry), (129, s_cmp_Or_int), (130, s_cmp_Compare_int), (131, s_slices_Index_int_int), (132, s_laws_szIntS), (133, s_laws_szAclEntryS), (134, s_spec_SameInode), (135, s_spec_l06Mode), (136, s_spec_l02Has), (137, s_spec_IsAcl), (138, s_spec_BlockOwner), (139, s_laws_toIntS), (140, s_laws_toAclEntryS), (141, s_laws_eqAclEntryS), (154, s_strings_Repeat), (157, s_cmp_isNaN_int), (158, s_spec_l02Same), (159, s_spec_l05Same), (160, s_spec_l05Entry), (161, s_laws_toAclEntry), (162, s_laws_eqAclEntry)],
  body := [(4, Try.f4), (6, Try.f6), (10, Try.f10), (11, Try.f11), (14, Try.f14), (15, Try.f15), (16, Try.f16), (17, Try.f17), (18, Try.f18), (19, Try.f19), (20, Try.f20), (21, Try.f21), (22, Try.f22), (23, Try.f23), (34, Try.f34), (35, Try.f35), (38, Try.f38), (43, Try.f43), (44, Try.f44), (45, Try.f45), (46, Try.f46), (47, Try.f47), (48, Try.f48), (49, Try.f49), (50, Try.f50), (51, Try.f51), (52, Try.f52), (53, Try.f53), (54, Try.f54), (55, Try.f55), (56, Try.f56), (57, Try.f57), (58, Try.f58), (71, Try.f71), (72, Try.f72), (82, Try.f82), (83, Try.f83), (84, Try.f84), (85, Try.f85), (86, Try.f86), (87, Try.f87), (88, Try.f88), (89, Try.f89), (90, Try.f90), (91, Try.f91), (92, Try.f92), (93, Try.f93), (94, Try.f94), (95, Try.f95), (96, Try.f96), (97, Try.f97), (116, Try.f116), (117, Try.f117), (118, Try.f118), (119, Try.f119), (125, Try.f125), (127, Try.f127), (128, Try.f128), (129, Try.f129), (130, Try.f130), (131, Try.f131), (132, Try.f132), (133, Try.f133), (134, Try.f134), (135, Try.f135), (136, Try.f136), (137, Try.f137), (138, Try.f138), (139, Try.f139), (140, Try.f140), (141, Try.f141), (157, Try.f157), (158, Try.f158), (159, Try.f159), (160, Try.f160), (161, Try.f161), (162, Try.f162)] }
noncomputable def E1 : Env := tab.env (extOf exts)
noncomputable def H1 : Nat → Hints := fun f => (Eng.look [(11, ⟨fun r => (Eng.look [(2, [(0, none), (5, none), (6, none)])] r).getD [], fun r => Eng.look [] r⟩),
  (14, ⟨fun r => (Eng.look [(5, [(1, none), (2, none), (5, none), (6, none)])] r).getD [], fun r => Eng.look [] r⟩),
  (15, ⟨fun r => (Eng.look [(4, [(1, none), (42, none), (43, none), (44, none)]), (10, [(1, none), (68, none), (69, none), (70, none)]), (17, [(1, none), (7, none), (79, none), (80, none), (81, none)]), (22, [(1, none), (7, none), (9, none), (79, none), (80, none), (81, none), (89, none), (90, none), (91, none)]), (34, [(1, none), (7, none), (131, none), (132, none), (133, none)])] r).getD [], fun r => Eng.look [] r⟩),
  (17, ⟨fun r => (Eng.look [(5, [(1, none), (2, none), (5, none), (6, none)])] r).getD [], fun r => Eng.look [] r⟩),
  (19, ⟨fun r => (Eng.look [(4, [(0, none), (1, none), (5, none)])] r).getD [], fun r => Eng.look [] r⟩),
  (22, ⟨fun r => (Eng.look [(2, [(0, none), (1, none), (5, none)])] r).getD [], fun r => Eng.look [] r⟩),
  (23, ⟨fun r => (Eng.look [(2, [(0, none), (1, none), (5, none)])] r).getD [], fun r => Eng.look [] r⟩),
  (44, ⟨fun r => (Eng.look [(10, [(1, none), (83, none), (84, none), (85, none)])] r).getD [], fun r => Eng.look [(7, [(1, none)])] r⟩),
  (46, ⟨fun r => (Eng.look [(5, [(0, none), (1, none), (5, none)])] r).getD [], fun r => Eng.look [] r⟩),
  (47, ⟨fun r => (Eng.look [(5, [(0, none), (1, none), (5, none)])] r).getD [], fun r => Eng.look [] r⟩),
  (48, ⟨fun r => (Eng.look [(4, [(1, none), (37, none), (38, none), (39, none)]), (10, [(1, none), (55, none), (56, none), (57, none)]), (21, [(1, none), (7, none), (79, none), (80, none), (81, none)]), (27, [(1, none), (103, none), (104, none), (105, none)])] r).getD [], fun r => Eng.look [] r⟩),
  (50, ⟨fun r => (Eng.look [(3, [(0, none), (3, none), (4, none)])] r).getD [], fun r => Eng.look [] r⟩),
  (51, ⟨fun r => (Eng.look [(3, [(0, none), (3, none), (4, none)])] r).getD [], fun r => Eng.look [] r⟩),
  (52, ⟨fun r => (Eng.look [(3, [(0, none), (3, none), (4, none)])] r).getD [], fun r => Eng.look [] r⟩),
  (53, ⟨fun r => (Eng.look [(4, [(0, none), (1, none), (5, none)])] r).getD [], fun r => Eng.look [] r⟩),
  (54, ⟨fun r => (Eng.look [(4, [(0, none), (1, none), (5, none)])] r).getD [], fun r => Eng.look [] r⟩),
  (55, ⟨fun r => (Eng.look [(4, [(0, none), (1, none), (5, none)])] r).getD [], fun r => Eng.look [] r⟩),
  (56, ⟨fun r => (Eng.look [(2, [(0, none), (1, none), (5, none)])] r).getD [], fun r => Eng.look [] r⟩),
  (57, ⟨fun r => (Eng.look [(2, [(0, none), (1, none), (5, none)])] r).getD [], fun r => Eng.look [] r⟩),
  (58, ⟨fun r => (Eng.look [(2, [(0, none), (1, none), (5, none)])] r).getD [], fun r => Eng.look [] r⟩),
  (71, ⟨fun r => (Eng.look [(3, [(3, none), (11, none), (12, none), (13, none)])] r).getD [], fun r => Eng.look [] r⟩),
  (72, ⟨fun r => (Eng.look [(3, [(3, none), (15, none), (16, none), (17, none)])] r).getD [], fun r => Eng.look [] r⟩),
  (85, ⟨fun r => (Eng.look [(4, [(0, none), (8, none), (9, none), (10, none)])] r).getD [], fun r => Eng.look [(17, [(0, none), (3, none), (4, none), (8, none), (9, none), (10, none)])] r⟩),
  (89, ⟨fun r => (Eng.look [(6, [(1, none), (65, none), (66, none), (67, none)])] r).getD [], fun r => Eng.look [(5, [(1, none)]), (13, [(1, none)])] r⟩),
  (90, ⟨fun r => (Eng.look [(3, [(4, none), (11, none), (12, none), (13, none)]), (6, [(4, none), (6, none), (11, none), (12, none), (13, none), (18, none), (19, none), (20, none)])] r).getD [], fun r => Eng.look [] r⟩),
  (91, ⟨fun r => (Eng.look [(2, [(0, none), (3, none)])] r).getD [], fun r => Eng.look [] r⟩),
  (96, ⟨fun r => (Eng.look [(2, [(0, none), (1, none), (5, none)])] r).getD [], fun r => Eng.look [] r⟩),
  (97, ⟨fun r => (Eng.look [(4, [(0, none), (3, none)])] r).getD [], fun r => Eng.look [] r⟩),
  (116, ⟨fun r => (Eng.look [(5, [(0, none), (5, none), (6, none)])] r).getD [], fun r => Eng.look [] r⟩),
  (117, ⟨fun r => (Eng.look [(4, [(1, none), (5, none)])] r).getD [], fun r => Eng.look [] r⟩),
  (118, ⟨fun r => (Eng.look [(5, [(0, none), (5, none), (6, none)])] r).getD [], fun r => Eng.look [] r⟩),
  (127, ⟨fun r => (Eng.look [(4, [(0, none), (1, none), (12, none), (13, none)])] r).getD [], fun r => Eng.look [] r⟩),
  (128, ⟨fun r => (Eng.look [(4, [(0, none), (1, none), (12, none), (13, none)])] r).getD [], fun r => Eng.look [] r⟩),
  (129, ⟨fun r => (Eng.look [(3, [(3, none), (6, none), (7, none), (8, none)])] r).getD [], fun r => Eng.look [] r⟩),
  (131, ⟨fun r => (Eng.look [(2, [(0, none), (1, none), (7, none), (8, none)])] r).getD [], fun r => Eng.look [] r⟩),
  (136, ⟨fun r => (Eng.look [(2, [(1, none), (7, none), (8, none), (9, none)])] r).getD [], fun r => Eng.look [] r⟩),
  (137, ⟨fun r => (Eng.look [(2, [(0, none), (6, none), (7, none), (8, none)])] r).getD [], fun r => Eng.look [] r⟩),
  (139, ⟨fun r => (Eng.look [(3, [(0, none), (3, none), (4, none)])] r).getD [], fun r => Eng.look [] r⟩),
  (140, ⟨fun r => (Eng.look [(3, [(0, none), (3, none), (4, none)])] r).getD [], fun r => Eng.look [] r⟩),
  (141, ⟨fun r => (Eng.look [(4, [(0, none), (1, none), (5, none)])] r).getD [], fun r => Eng.look [] r⟩),
  (158, ⟨fun r => (Eng.look [(4, [(1, none), (12, none), (13, none), (14, none)])] r).getD [], fun r => Eng.look [] r⟩),
  (159, ⟨fun r => (Eng.look [(4, [(1, none), (12, none), (13, none), (14, none)])] r).getD [], fun r => Eng.look [] r⟩)] f).getD ⟨fun _ => [], fun _ => none⟩
noncomputable def c_laws_FnExactPoolOf (k : Nat) (x : (DFS × Int)) : Option Bool := runF E1 H1 k 4 s_laws_FnExactPoolOf x
noncomputable def c_laws_FnExactSuperText (k : Nat) (x : DFS) : Option Bool := runF E1 H1 k 6 s_laws_FnExactSuperText x
noncomputable def c_impl_BlockOwner (k : Nat) (x : Int) : Option Int := runF E1 H1 k 10 s_impl_BlockOwner x
noncomputable def c_impl_IsZeroes (k : Nat) (x : ByteArray) : Option Bool := runF E1 H1 k 11 s_impl_IsZeroes x
noncomputable def c_impl_PoolOf (k : Nat) (x : (DFS × Int)) : Option (List Int) := runF E1 H1 k 14 s_impl_PoolOf x
noncomputable def c_impl_IsFS (k : Nat) (x : DFS) : Option Bool := runF E1 H1 k 15 s_impl_IsFS x
noncomputable def c_laws_szFS (k : Nat) (x : (DFS × Int)) : Option Int := runF E1 H1 k 16 s_laws_szFS x
noncomputable def c_spec_PoolOf (k : Nat) (x : (DFS × Int)) : Option (List Int) := runF E1 H1 k 17 s_spec_PoolOf x
noncomputable def c_laws_toFS (k : Nat) (x : DFS) : Option DFS := runF E1 H1 k 18 s_laws_toFS x
noncomputable def c_laws_eqIntS (k : Nat) (x : ((List Int) × (List Int))) : Option Bool := runF E1 H1 k 19 s_laws_eqIntS x
noncomputable def c_laws_eqFS (k : Nat) (x : (DFS × DFS)) : Option Bool := runF E1 H1 k 20 s_laws_eqFS x
noncomputable def c_laws_markFS (k : Nat) (x : (DFS × Int)) : Option Int := runF E1 H1 k 21 s_laws_markFS x
noncomputable def c_laws_markIntS (k : Nat) (x : ((List Int) × Int)) : Option (Int × (List Int)) := runF E1 H1 k 22 s_laws_markIntS x
noncomputable def c_laws_heldIntS (k : Nat) (x : ((List Int) × Int)) : Option Int := runF E1 H1 k 23 s_laws_heldIntS x
noncomputable def c_spec_SuperText (k : Nat) (x : DFS) : Option ByteArray := runF E1 H1 k 34 s_spec_SuperText x
noncomputable def c_impl_SuperText (k : Nat) (x : DFS) : Option ByteArray := runF E1 H1 k 35 s_impl_SuperText x
noncomputable def c_impl_isUser (k : Nat) (x : Int) : Option Bool := runF E1 H1 k 38 s_impl_isUser x
noncomputable def c_impl_FS_has (k : Nat) (x : ((Option DFS) × Int)) : Option Bool := runF E1 H1 k 43 s_impl_FS_has x
noncomputable def c_impl_IsInode (k : Nat) (x : DInode) : Option Bool := runF E1 H1 k 44 s_impl_IsInode x
noncomputable def c_laws_szQuotaS (k : Nat) (x : ((List DQuota) × Int)) : Option Int := runF E1 H1 k 45 s_laws_szQuotaS x
noncomputable def c_laws_szInodeS (k : Nat) (x : ((List DInode) × Int)) : Option Int := runF E1 H1 k 46 s_laws_szInodeS x
noncomputable def c_laws_szStringS (k : Nat) (x : ((List ByteArray) × Int)) : Option Int := runF E1 H1 k 47 s_laws_szStringS x
noncomputable def c_spec_IsFS (k : Nat) (x : DFS) : Option Bool := runF E1 H1 k 48 s_spec_IsFS x
noncomputable def c_spec_l06User (k : Nat) (x : Int) : Option Bool := runF E1 H1 k 49 s_spec_l06User x
noncomputable def c_laws_toQuotaS (k : Nat) (x : (List DQuota)) : Option (List DQuota) := runF E1 H1 k 50 s_laws_toQuotaS x
noncomputable def c_laws_toInodeS (k : Nat) (x : (List DInode)) : Option (List DInode) := runF E1 H1 k 51 s_laws_toInodeS x
noncomputable def c_laws_toStringS (k : Nat) (x : (List ByteArray)) : Option (List ByteArray) := runF E1 H1 k 52 s_laws_toStringS x
noncomputable def c_laws_eqQuotaS (k : Nat) (x : ((List DQuota) × (List DQuota))) : Option Bool := runF E1 H1 k 53 s_laws_eqQuotaS x
noncomputable def c_laws_eqInodeS (k : Nat) (x : ((List DInode) × (List DInode))) : Option Bool := runF E1 H1 k 54 s_laws_eqInodeS x
noncomputable def c_laws_eqStringS (k : Nat) (x : ((List ByteArray) × (List ByteArray))) : Option Bool := runF E1 H1 k 55 s_laws_eqStringS x
noncomputable def c_laws_markQuotaS (k : Nat) (x : ((List DQuota) × Int)) : Option (Int × (List DQuota)) := runF E1 H1 k 56 s_laws_markQuotaS x
noncomputable def c_laws_markInodeS (k : Nat) (x : ((List DInode) × Int)) : Option (Int × (List DInode)) := runF E1 H1 k 57 s_laws_markInodeS x
noncomputable def c_laws_markStringS (k : Nat) (x : ((List ByteArray) × Int)) : Option (Int × (List ByteArray)) := runF E1 H1 k 58 s_laws_markStringS x
noncomputable def c_spec_l18Super (k : Nat) (x : DFS) : Option ByteArray := runF E1 H1 k 71 s_spec_l18Super x
noncomputable def c_impl_FS_super (k : Nat) (x : (Option DFS)) : Option ByteArray := runF E1 H1 k 72 s_impl_FS_super x
noncomputable def c_impl_SameInode (k : Nat) (x : (DInode × DInode)) : Option Bool := runF E1 H1 k 82 s_impl_SameInode x
noncomputable def c_impl_isMode (k : Nat) (x : Int) : Option Bool := runF E1 H1 k 83 s_impl_isMode x
noncomputable def c_impl_BlocksNeeded (k : Nat) (x : Int) : Option Int := runF E1 H1 k 84 s_impl_BlocksNeeded x
noncomputable def c_impl_IsAcl (k : Nat) (x : (List DAclEntry)) : Option Bool := runF E1 H1 k 85 s_impl_IsAcl x
noncomputable def c_slices_Contains_int_int (k : Nat) (x : ((List Int) × Int)) : Option Bool := runF E1 H1 k 86 s_slices_Contains_int_int x
noncomputable def c_laws_szInode (k : Nat) (x : (DInode × Int)) : Option Int := runF E1 H1 k 87 s_laws_szInode x
noncomputable def c_spec_l01In (k : Nat) (x : DAclEntry) : Option Bool := runF E1 H1 k 88 s_spec_l01In x
noncomputable def c_spec_IsInode (k : Nat) (x : DInode) : Option Bool := runF E1 H1 k 89 s_spec_IsInode x
noncomputable def c_spec_l08Used (k : Nat) (x : DFS) : Option ((List Bool) × Bool) := runF E1 H1 k 90 s_spec_l08Used x
noncomputable def c_spec_IsZeroes (k : Nat) (x : ByteArray) : Option Bool := runF E1 H1 k 91 s_spec_IsZeroes x
noncomputable def c_laws_toQuota (k : Nat) (x : DQuota) : Option DQuota := runF E1 H1 k 92 s_laws_toQuota x
noncomputable def c_laws_toInode (k : Nat) (x : DInode) : Option DInode := runF E1 H1 k 93 s_laws_toInode x
noncomputable def c_laws_eqQuota (k : Nat) (x : (DQuota × DQuota)) : Option Bool := runF E1 H1 k 94 s_laws_eqQuota x
noncomputable def c_laws_eqInode (k : Nat) (x : (DInode × DInode)) : Option Bool := runF E1 H1 k 95 s_laws_eqInode x
noncomputable def c_laws_markAclEntryS (k : Nat) (x : ((List DAclEntry) × Int)) : Option (Int × (List DAclEntry)) := runF E1 H1 k 96 s_laws_markAclEntryS x
noncomputable def c_laws_markText (k : Nat) (x : Int) : Option ByteArray := runF E1 H1 k 97 s_laws_markText x
noncomputable def c_spec_PutNumber (k : Nat) (x : DQuota) : Option ByteArray := runF E1 H1 k 116 s_spec_PutNumber x
noncomputable def c_spec_PadTo (k : Nat) (x : DerrorAddressString) : Option ByteArray := runF E1 H1 k 117 s_spec_PadTo x
noncomputable def c_impl_PutNumber (k : Nat) (x : DQuota) : Option ByteArray := runF E1 H1 k 118 s_impl_PutNumber x
noncomputable def c_impl_PadTo (k : Nat) (x : DerrorAddressString) : Option ByteArray := runF E1 H1 k 119 s_impl_PadTo x
noncomputable def c_spec_BlocksNeeded (k : Nat) (x : Int) : Option Int := runF E1 H1 k 125 s_spec_BlocksNeeded x
noncomputable def c_slices_Equal_int_int (k : Nat) (x : ((List Int) × (List Int))) : Option Bool := runF E1 H1 k 127 s_slices_Equal_int_int x
noncomputable def c_slices_Equal_impl_AclEntry_impl_AclEntry (k : Nat) (x : ((List DAclEntry) × (List DAclEntry))) : Option Bool := runF E1 H1 k 128 s_slices_Equal_impl_AclEntry_impl_AclEntry x
noncomputable def c_cmp_Or_int (k : Nat) (x : (List Int)) : Option Int := runF E1 H1 k 129 s_cmp_Or_int x
noncomputable def c_cmp_Compare_int (k : Nat) (x : DQuota) : Option Int := runF E1 H1 k 130 s_cmp_Compare_int x
noncomputable def c_slices_Index_int_int (k : Nat) (x : ((List Int) × Int)) : Option Int := runF E1 H1 k 131 s_slices_Index_int_int x
noncomputable def c_laws_szIntS (k : Nat) (x : ((List Int) × Int)) : Option Int := runF E1 H1 k 132 s_laws_szIntS x
noncomputable def c_laws_szAclEntryS (k : Nat) (x : ((List DAclEntry) × Int)) : Option Int := runF E1 H1 k 133 s_laws_szAclEntryS x
noncomputable def c_spec_SameInode (k : Nat) (x : (DInode × DInode)) : Option Bool := runF E1 H1 k 134 s_spec_SameInode x
noncomputable def c_spec_l06Mode (k : Nat) (x : Int) : Option Bool := runF E1 H1 k 135 s_spec_l06Mode x
noncomputable def c_spec_l02Has (k : Nat) (x : ((List Int) × Int)) : Option Bool := runF E1 H1 k 136 s_spec_l02Has x
noncomputable def c_spec_IsAcl (k : Nat) (x : (List DAclEntry)) : Option Bool := runF E1 H1 k 137 s_spec_IsAcl x
noncomputable def c_spec_BlockOwner (k : Nat) (x : Int) : Option Int := runF E1 H1 k 138 s_spec_BlockOwner x
noncomputable def c_laws_toIntS (k : Nat) (x : (List Int)) : Option (List Int) := runF E1 H1 k 139 s_laws_toIntS x
noncomputable def c_laws_toAclEntryS (k : Nat) (x : (List DAclEntry)) : Option (List DAclEntry) := runF E1 H1 k 140 s_laws_toAclEntryS x
noncomputable def c_laws_eqAclEntryS (k : Nat) (x : ((List DAclEntry) × (List DAclEntry))) : Option Bool := runF E1 H1 k 141 s_laws_eqAclEntryS x
noncomputable def c_strings_Repeat (k : Nat) (x : DerrorAddressString) : Option ByteArray := runF E1 H1 k 154 s_strings_Repeat x
noncomputable def c_cmp_isNaN_int (k : Nat) (x : Int) : Option Bool := runF E1 H1 k 157 s_cmp_isNaN_int x
noncomputable def c_spec_l02Same (k : Nat) (x : ((List Int) × (List Int))) : Option Bool := runF E1 H1 k 158 s_spec_l02Same x
noncomputable def c_spec_l05Same (k : Nat) (x : ((List DAclEntry) × (List DAclEntry))) : Option Bool := runF E1 H1 k 159 s_spec_l05Same x
noncomputable def c_spec_l05Entry (k : Nat) (x : DAclEntry) : Option Bool := runF E1 H1 k 160 s_spec_l05Entry x
noncomputable def c_laws_toAclEntry (k : Nat) (x : DAclEntry) : Option DAclEntry := runF E1 H1 k 161 s_laws_toAclEntry x
noncomputable def c_laws_eqAclEntry (k : Nat) (x : (DAclEntry × DAclEntry)) : Option Bool := runF E1 H1 k 162 s_laws_eqAclEntry x
theorem c_strings_Repeat_run (k : Nat) (x) : c_strings_Repeat (k + 1) x = ext_strings_Repeat x := by kernel_rfl
end Go.Proofs.Ytnbipilpdhhhmaa
