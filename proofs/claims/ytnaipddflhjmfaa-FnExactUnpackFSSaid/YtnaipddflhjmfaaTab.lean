/- The tables, the residual functions and lemmas of this seat: parts of the proof of the law; conditions: those that each names. -/
import Derived.Test.YtnaipddflhjmfaaEng5
import Derived.KernelRfl
import Derived.Test.YtnaipddflhjmfaaProg
set_option maxRecDepth 100000
namespace Go.Proofs.Ytnaipddflhjmfaa
open Go.Eng
abbrev DQuota:Type:=(Int×Int)
abbrev DerrorAddressString:Type:=(ByteArray×Int)
abbrev DAclEntry:Type:=(Int×DQuota)
abbrev Dl01Cur:Type:=((List Int)×DQuota)
abbrev DboundsError:Type:=(Int×(Int×(Bool×Int)))
abbrev DInode:Type:=(Int×(Int×(Int×(Int×(Int×(Int×(Int×((List Int)×((List DAclEntry)×(List DAclEntry))))))))))
abbrev DFS:Type:=(Int×((List DQuota)×((List DInode)×(List ByteArray))))
abbrev TerrorAddressStringk:Ty:=(.pair .str (.int .u64))
abbrev TQuotak:Ty:=(.pair (.int .i64) (.int .i64))
abbrev TAclEntryk:Ty:=(.pair (.int .i64) TQuotak)
abbrev Tl01Curo:Ty:=(.pair (.list true (.int .u8)) TQuotak)
abbrev TboundsErrork:Ty:=(.pair (.int .i64) (.pair (.int .i64) (.pair .bool (.int .u8))))
abbrev Tl01Curk:Ty:=(.pair (.list false (.int .u8)) TQuotak)
abbrev TInodeo:Ty:=(.pair (.int .i64) (.pair (.int .i64) (.pair (.int .i64) (.pair (.int .i64) (.pair (.int .i64) (.pair (.int .i64) (.pair (.int .i64) (.pair (.list true (.int .i64)) (.pair (.list true TAclEntryk) (.list true TAclEntryk))))))))))
abbrev TInodek:Ty:=(.pair (.int .i64) (.pair (.int .i64) (.pair (.int .i64) (.pair (.int .i64) (.pair (.int .i64) (.pair (.int .i64) (.pair (.int .i64) (.pair (.list false (.int .i64)) (.pair (.list false TAclEntryk) (.list false TAclEntryk))))))))))
abbrev TFSo:Ty:=(.pair (.int .i64) (.pair (.list true TQuotak) (.pair (.list true TInodeo) (.list true .str))))
abbrev TFSk:Ty:=(.pair (.int .i64) (.pair (.list false TQuotak) (.pair (.list false TInodek) (.list false .str))))
abbrev s_laws_FnExactUnpackFS:Sig:=⟨[.val (.list false .str)],[.bool],none⟩
abbrev s_impl_BlockOwner:Sig:=⟨[.val (.int .i64)],[(.int .i64)],none⟩
abbrev s_impl_IsZeroes:Sig:=⟨[.val .str],[.bool],none⟩
abbrev s_impl_IsFS:Sig:=⟨[.val TFSk],[.bool],none⟩
abbrev s_impl_PackFS:Sig:=⟨[.val TFSk],[(.list true .str)],none⟩
abbrev s_laws_eqStringS:Sig:=⟨[.val (.list false .str),.val (.list false .str)],[.bool],none⟩
abbrev s_laws_eqFS:Sig:=⟨[.val TFSk,.val TFSk],[.bool],none⟩
abbrev s_laws_markStringS:Sig:=⟨[.val (.int .i64)],[(.int .i64)],some (false,(.list true .str))⟩
abbrev s_laws_heldStringS:Sig:=⟨[.val (.list false .str),.val (.int .i64)],[(.int .i64)],none⟩
abbrev s_laws_szStringS:Sig:=⟨[.val (.list false .str),.val (.int .i64)],[(.int .i64)],none⟩
abbrev s_spec_UnpackFS:Sig:=⟨[.val (.list false .str)],[TFSo,.bool],none⟩
abbrev s_laws_toStringS:Sig:=⟨[.val (.list false .str)],[(.list true .str)],none⟩
abbrev s_impl_UnpackFS:Sig:=⟨[.val (.list false .str)],[TFSo,.bool],none⟩
abbrev s_laws_heldFS:Sig:=⟨[.val TFSk,.val (.int .i64)],[(.int .i64)],none⟩
abbrev s_impl_isUser:Sig:=⟨[.val (.int .i64)],[.bool],none⟩
abbrev s_impl_IsInode:Sig:=⟨[.val TInodek],[.bool],none⟩
abbrev s_spec_IsFS:Sig:=⟨[.val TFSk],[.bool],none⟩
abbrev s_spec_l18Pack:Sig:=⟨[.val TFSk],[(.list true .str)],none⟩
abbrev s_impl_FS_super:Sig:=⟨[.val (.ptr TFSk)],[.str],none⟩
abbrev s_slices_Repeat_string_string:Sig:=⟨[.val (.list false .str),.val (.int .i64)],[(.list true .str)],none⟩
abbrev s_impl_zeros:Sig:=⟨[.val (.int .i64)],[.str],none⟩
abbrev s_impl_CutAll:Sig:=⟨[.val .str,.val (.int .i64)],[(.list true .str)],none⟩
abbrev s_impl_PackInode:Sig:=⟨[.val TInodek],[.str],none⟩
abbrev s_laws_eqQuotaS:Sig:=⟨[.val (.list false TQuotak),.val (.list false TQuotak)],[.bool],none⟩
abbrev s_laws_eqInodeS:Sig:=⟨[.val (.list false TInodek),.val (.list false TInodek)],[.bool],none⟩
abbrev s_laws_markQuotaS:Sig:=⟨[.val (.int .i64)],[(.int .i64)],some (false,(.list true TQuotak))⟩
abbrev s_laws_markInodeS:Sig:=⟨[.val (.int .i64)],[(.int .i64)],some (false,(.list true TInodeo))⟩
abbrev s_laws_markText:Sig:=⟨[.val (.int .i64)],[.str],none⟩
abbrev s_spec_GetNumber:Sig:=⟨[.val .str,.val (.int .i64),.val (.int .i64)],[(.int .i64),.bool],none⟩
abbrev s_spec_UnpackInode:Sig:=⟨[.val .str],[TInodeo,.bool],none⟩
abbrev s_spec_l01In:Sig:=⟨[.val (.int .i64),.val (.int .i64),.val (.int .i64)],[.bool],none⟩
abbrev s_impl_GetNumber:Sig:=⟨[.val .str,.val (.int .i64),.val (.int .i64)],[(.int .i64),.bool],none⟩
abbrev s_impl_UnpackInode:Sig:=⟨[.val .str],[TInodeo,.bool],none⟩
abbrev s_impl_Join:Sig:=⟨[.val (.list false .str),.val .str],[.str],none⟩
abbrev s_slices_Clone_string_string:Sig:=⟨[.val (.list false .str)],[(.list true .str)],none⟩
abbrev s_laws_heldQuotaS:Sig:=⟨[.val (.list false TQuotak),.val (.int .i64)],[(.int .i64)],none⟩
abbrev s_laws_heldInodeS:Sig:=⟨[.val (.list false TInodek),.val (.int .i64)],[(.int .i64)],none⟩
abbrev s_impl_SameInode:Sig:=⟨[.val TInodek,.val TInodek],[.bool],none⟩
abbrev s_impl_isMode:Sig:=⟨[.val (.int .i64)],[.bool],none⟩
abbrev s_impl_BlocksNeeded:Sig:=⟨[.val (.int .i64)],[(.int .i64)],none⟩
abbrev s_impl_IsAcl:Sig:=⟨[.val (.list false TAclEntryk)],[.bool],none⟩
abbrev s_slices_Contains_int_int:Sig:=⟨[.val (.list false (.int .i64)),.val (.int .i64)],[.bool],none⟩
abbrev s_spec_IsInode:Sig:=⟨[.val TInodek],[.bool],none⟩
abbrev s_spec_l08Used:Sig:=⟨[.val TFSk],[(.list true .bool),.bool],none⟩
abbrev s_spec_IsZeroes:Sig:=⟨[.val .str],[.bool],none⟩
abbrev s_spec_l18Super:Sig:=⟨[.val TFSk],[.str],none⟩
abbrev s_spec_PadTo:Sig:=⟨[.val .str,.val (.int .i64)],[.str],none⟩
abbrev s_spec_CutAll:Sig:=⟨[.val .str,.val (.int .i64)],[(.list true .str)],none⟩
abbrev s_spec_PackInode:Sig:=⟨[.val TInodek],[.str],none⟩
abbrev s_impl_PutNumber:Sig:=⟨[.val (.int .i64),.val (.int .i64)],[.str],none⟩
abbrev s_impl_PadTo:Sig:=⟨[.val .str,.val (.int .i64)],[.str],none⟩
abbrev s_impl_PackAcl:Sig:=⟨[.val (.list false TAclEntryk)],[.str],none⟩
abbrev s_laws_eqQuota:Sig:=⟨[.val TQuotak,.val TQuotak],[.bool],none⟩
abbrev s_laws_eqInode:Sig:=⟨[.val TInodek,.val TInodek],[.bool],none⟩
abbrev s_laws_markIntS:Sig:=⟨[.val (.int .i64)],[(.int .i64)],some (false,(.list true (.int .i64)))⟩
abbrev s_laws_markAclEntryS:Sig:=⟨[.val (.int .i64)],[(.int .i64)],some (false,(.list true TAclEntryk))⟩
abbrev s_spec_BlocksNeeded:Sig:=⟨[.val (.int .i64)],[(.int .i64)],none⟩
abbrev s_spec_UnpackAcl:Sig:=⟨[.val .str],[(.list true TAclEntryk),.bool],none⟩
abbrev s_impl_UnpackAcl:Sig:=⟨[.val .str],[(.list true TAclEntryk),.bool],none⟩
abbrev s_strings_Join:Sig:=⟨[.val (.list false .str),.val .str],[.str],none⟩
abbrev s_laws_heldIntS:Sig:=⟨[.val (.list false (.int .i64)),.val (.int .i64)],[(.int .i64)],none⟩
abbrev s_laws_heldAclEntryS:Sig:=⟨[.val (.list false TAclEntryk),.val (.int .i64)],[(.int .i64)],none⟩
abbrev s_spec_PutNumber:Sig:=⟨[.val (.int .i64),.val (.int .i64)],[.str],none⟩
abbrev s_slices_Equal_int_int:Sig:=⟨[.val (.list false (.int .i64)),.val (.list false (.int .i64))],[.bool],none⟩
abbrev s_slices_Equal_impl_AclEntry_impl_AclEntry:Sig:=⟨[.val (.list false TAclEntryk),.val (.list false TAclEntryk)],[.bool],none⟩
abbrev s_cmp_Or_int:Sig:=⟨[.val (.list false (.int .i64))],[(.int .i64)],none⟩
abbrev s_cmp_Compare_int:Sig:=⟨[.val (.int .i64),.val (.int .i64)],[(.int .i64)],none⟩
abbrev s_slices_Index_int_int:Sig:=⟨[.val (.list false (.int .i64)),.val (.int .i64)],[(.int .i64)],none⟩
abbrev s_spec_SameInode:Sig:=⟨[.val TInodek,.val TInodek],[.bool],none⟩
abbrev s_spec_l06Mode:Sig:=⟨[.val (.int .i64)],[.bool],none⟩
abbrev s_spec_l06User:Sig:=⟨[.val (.int .i64)],[.bool],none⟩
abbrev s_spec_l02Has:Sig:=⟨[.val (.list false (.int .i64)),.val (.int .i64)],[.bool],none⟩
abbrev s_spec_IsAcl:Sig:=⟨[.val (.list false TAclEntryk)],[.bool],none⟩
abbrev s_spec_BlockOwner:Sig:=⟨[.val (.int .i64)],[(.int .i64)],none⟩
abbrev s_spec_PackAcl:Sig:=⟨[.val (.list false TAclEntryk)],[.str],none⟩
abbrev s_strings_Repeat:Sig:=⟨[.val .str,.val (.int .i64)],[.str],none⟩
abbrev s_laws_eqIntS:Sig:=⟨[.val (.list false (.int .i64)),.val (.list false (.int .i64))],[.bool],none⟩
abbrev s_laws_eqAclEntryS:Sig:=⟨[.val (.list false TAclEntryk),.val (.list false TAclEntryk)],[.bool],none⟩
abbrev s_cmp_isNaN_int:Sig:=⟨[.val (.int .i64)],[.bool],none⟩
abbrev s_spec_l02Same:Sig:=⟨[.val (.list false (.int .i64)),.val (.list false (.int .i64))],[.bool],none⟩
abbrev s_spec_l05Same:Sig:=⟨[.val (.list false TAclEntryk),.val (.list false TAclEntryk)],[.bool],none⟩
abbrev s_spec_l05Entry:Sig:=⟨[.val TAclEntryk],[.bool],none⟩
abbrev s_laws_eqAclEntry:Sig:=⟨[.val TAclEntryk,.val TAclEntryk],[.bool],none⟩
noncomputable def exts:List ExtE:=[⟨45,s_slices_Repeat_string_string,ext_slices_Repeat_string_string⟩,⟨60,s_slices_Clone_string_string,ext_slices_Clone_string_string⟩,⟨99,s_strings_Join,ext_strings_Join⟩,⟨124,s_strings_Repeat,ext_strings_Repeat⟩]
noncomputable def tab:Tab:={
 ty:=[(2,(.int .i64)),(3,(.int .i64)),(4,.bool),(5,(.int .u8)),(9,.str),(22,(.list false (.int .u8))),(23,(.list false TQuotak)),(24,(.list false TInodek)),(25,(.list false .str)),(27,TFSk),(31,(.list false (.int .i64))),(32,(.list false TAclEntryk)),(34,TInodek),(39,TQuotak),(63,(.arr 56 .bool)),(95,(.list false .bool)),(112,(.int .u64)),(125,TAclEntryk)],
 nf:=[(27,4),(34,10),(39,2),(125,3)],
 el:=[(22,5,1),(23,39,16),(24,34,128),(25,9,16),(31,3,8),(32,125,24),(95,4,1)],
 fnT:=[1],
 eqs:=[39,125],
 sig:=[(5,s_laws_FnExactUnpackFS),(9,s_impl_BlockOwner),(10,s_impl_IsZeroes),(14,s_impl_IsFS),(18,s_impl_PackFS),(19,s_laws_eqStringS),(20,s_laws_eqFS),(22,s_laws_markStringS),(23,s_laws_heldStringS),(24,s_laws_szStringS),(25,s_spec_UnpackFS),(26,s_laws_toStringS),(27,s_impl_UnpackFS),(28,s_laws_heldFS),(31,s_impl_isUser),(37,s_impl_IsInode),(40,s_spec_IsFS),(41,s_spec_l18Pack),(44,s_impl_FS_super),(45,s_slices_Repeat_string_string),(46,s_impl_zeros),(47,s_impl_CutAll),(48,s_impl_PackInode),(49,s_laws_eqQuotaS),(50,s_laws_eqInodeS),(51,s_laws_markQuotaS),(52,s_laws_markInodeS),(53,s_laws_markText),(54,s_spec_GetNumber),(55,s_spec_UnpackInode),(56,s_spec_l01In),(57,s_impl_GetNumber),(58,s_impl_UnpackInode),(59,s_impl_Join),(60,s_slices_Clone_string_string),(61,s_laws_heldQuotaS),(62,s_laws_heldInodeS),(72,s_impl_SameInode),(73,s_impl_isMode),(74,s_impl_BlocksNeeded),(75,s_impl_IsAcl),(76,s_slices_Contains_int_int),(78,s_spec_IsInode),(79,s_spec_l08Used),(80,s_spec_IsZeroes),(81,s_spec_l18Super),(82,s_spec_PadTo),(83,s_spec_CutAll),(84,s_spec_PackInode),(87,s_impl_PutNumber),(88,s_impl_PadTo),(90,s_impl_PackAcl),(91,s_laws_eqQuota),(92,s_laws_eqInode),(93,s_laws_markIntS),(94,s_laws_markAclEntryS),(95,s_spec_BlocksNeeded),(96,s_spec_UnpackAcl),(98,s_impl_UnpackAcl),(99,s_strings_Join),(100,s_laws_heldIntS),(101,s_laws_heldAclEntryS),(106,s_spec_PutNumber),(108,s_slices_Equal_int_int),(109,s_slices_Equal_impl_AclEntry_impl_AclEntry),(110,s_cmp_Or_int),(111,s_cmp_Compare_int),(112,s_slices_Index_int_int),(115,s_spec_SameInode),(116,s_spec_l06Mode),(117,s_spec_l06User),(118,s_spec_l02Has),(119,s_spec_IsAcl),(120,s_spec_BlockOwner),(121,s_spec_PackAcl),(124,s_strings_Repeat),(127,s_laws_eqIntS),(128,s_laws_eqAclEntryS),(134,s_cmp_isNaN_int),(135,s_spec_l02Same),(136,s_spec_l05Same),(137,s_spec_l05Entry),(141,s_laws_eqAclEntry)],
 body:=[(5,Try.f5),(9,Try.f9),(10,Try.f10),(14,Try.f14),(18,Try.f18),(19,Try.f19),(20,Try.f20),(21,Try.f21),(22,Try.f22),(23,Try.f23),(24,Try.f24),(25,Try.f25),(26,Try.f26),(27,Try.f27),(28,Try.f28),(31,Try.f31),(37,Try.f37),(40,Try.f40),(41,Try.f41),(44,Try.f44),(46,Try.f46),(47,Try.f47),(48,Try.f48),(49,Try.f49),(50,Try.f50),(51,Try.f51),(52,Try.f52),(53,Try.f53),(54,Try.f54),(55,Try.f55),(56,Try.f56),(57,Try.f57),(58,Try.f58),(59,Try.f59),(61,Try.f61),(62,Try.f62),(72,Try.f72),(73,Try.f73),(74,Try.f74),(75,Try.f75),(76,Try.f76),(78,Try.f78),(79,Try.f79),(80,Try.f80),(81,Try.f81),(82,Try.f82),(83,Try.f83),(84,Try.f84),(87,Try.f87),(88,Try.f88),(90,Try.f90),(91,Try.f91),(92,Try.f92),(93,Try.f93),(94,Try.f94),(95,Try.f95),(96,Try.f96),(97,Try.f97),(98,Try.f98),(100,Try.f100),(101,Try.f101),(106,Try.f106),(108,Try.f108),(109,Try.f109),(110,Try.f110),(111,Try.f111),(112,Try.f112),(115,Try.f115),(116,Try.f116),(117,Try.f117),(118,Try.f118),(119,Try.f119),(120,Try.f120),(121,Try.f121),(127,Try.f127),(128,Try.f128),(134,Try.f134),(135,Try.f135),(136,Try.f136),(137,Try.f137),(141,Try.f141)]}
noncomputable def E1:Env:=tab.env (extOf exts)
noncomputable def H1:Nat→Hints:=fun f=>(Eng.look [(10,⟨fun r=>(Eng.look [(2,[(0,none),(5,none),(6,none)])] r).getD [],fun r=>Eng.look [] r⟩),
 (14,⟨fun r=>(Eng.look [(4,[(1,none),(42,none),(43,none),(44,none)]),(10,[(1,none),(68,none),(69,none),(70,none)]),(17,[(1,none),(7,none),(79,none),(80,none),(81,none)]),(22,[(1,none),(7,none),(9,none),(79,none),(80,none),(81,none),(89,none),(90,none),(91,none)]),(34,[(1,none),(7,none),(131,none),(132,none),(133,none)])] r).getD [],fun r=>Eng.look [] r⟩),
 (18,⟨fun r=>(Eng.look [(5,[(1,none),(3,none),(16,none),(17,none),(18,none)])] r).getD [],fun r=>Eng.look [] r⟩),
 (19,⟨fun r=>(Eng.look [(4,[(0,none),(1,none),(5,none)])] r).getD [],fun r=>Eng.look [] r⟩),
 (22,⟨fun r=>(Eng.look [(2,[(0,none),(1,none),(5,none)])] r).getD [],fun r=>Eng.look [] r⟩),
 (23,⟨fun r=>(Eng.look [(2,[(0,none),(1,none),(5,none)])] r).getD [],fun r=>Eng.look [] r⟩),
 (24,⟨fun r=>(Eng.look [(5,[(0,none),(1,none),(5,none)])] r).getD [],fun r=>Eng.look [] r⟩),
 (25,⟨fun r=>(Eng.look [(6,[(0,none),(2,none),(4,none),(5,none)]),(10,[(0,none),(2,none),(4,none),(6,none)]),(20,[(0,none),(2,none),(4,none),(107,none),(108,none),(109,none)])] r).getD [],fun r=>Eng.look [] r⟩),
 (26,⟨fun r=>(Eng.look [(3,[(0,none),(3,none),(4,none)])] r).getD [],fun r=>Eng.look [] r⟩),
 (27,⟨fun r=>(Eng.look [(6,[(0,none),(2,none),(5,none),(6,none),(30,none)]),(14,[(0,none),(2,none),(5,none),(6,none),(69,none)]),(23,[(0,none),(2,none),(6,none),(110,none),(111,none),(112,none)])] r).getD [],fun r=>Eng.look [] r⟩),
 (37,⟨fun r=>(Eng.look [(10,[(1,none),(83,none),(84,none),(85,none)])] r).getD [],fun r=>Eng.look [(7,[(1,none)])] r⟩),
 (40,⟨fun r=>(Eng.look [(4,[(1,none),(37,none),(38,none),(39,none)]),(10,[(1,none),(55,none),(56,none),(57,none)]),(21,[(1,none),(7,none),(79,none),(80,none),(81,none)]),(27,[(1,none),(103,none),(104,none),(105,none)])] r).getD [],fun r=>Eng.look [] r⟩),
 (41,⟨fun r=>(Eng.look [(2,[(1,none),(3,none)]),(5,[(1,none),(3,none),(17,none),(18,none),(19,none)])] r).getD [],fun r=>Eng.look [] r⟩),
 (44,⟨fun r=>(Eng.look [(3,[(3,none),(15,none),(16,none),(17,none)])] r).getD [],fun r=>Eng.look [] r⟩),
 (47,⟨fun r=>(Eng.look [(4,[(0,none),(1,none),(5,none)])] r).getD [],fun r=>Eng.look [] r⟩),
 (48,⟨fun r=>(Eng.look [(5,[(1,none),(3,none),(36,none)])] r).getD [],fun r=>Eng.look [] r⟩),
 (49,⟨fun r=>(Eng.look [(4,[(0,none),(1,none),(5,none)])] r).getD [],fun r=>Eng.look [] r⟩),
 (50,⟨fun r=>(Eng.look [(4,[(0,none),(1,none),(5,none)])] r).getD [],fun r=>Eng.look [] r⟩),
 (51,⟨fun r=>(Eng.look [(2,[(0,none),(1,none),(5,none)])] r).getD [],fun r=>Eng.look [] r⟩),
 (52,⟨fun r=>(Eng.look [(2,[(0,none),(1,none),(5,none)])] r).getD [],fun r=>Eng.look [] r⟩),
 (53,⟨fun r=>(Eng.look [(4,[(0,none),(3,none)])] r).getD [],fun r=>Eng.look [] r⟩),
 (54,⟨fun r=>(Eng.look [(5,[(0,none),(1,none),(2,none),(8,none),(9,none)])] r).getD [],fun r=>Eng.look [] r⟩),
 (55,⟨fun r=>(Eng.look [(12,[(0,none),(2,none),(4,none),(5,none)])] r).getD [],fun r=>Eng.look [] r⟩),
 (57,⟨fun r=>(Eng.look [(5,[(0,none),(1,none),(8,none),(28,none),(29,none)])] r).getD [],fun r=>Eng.look [] r⟩),
 (58,⟨fun r=>(Eng.look [(7,[(1,none),(2,none),(4,none),(5,none),(6,none),(33,none)])] r).getD [],fun r=>Eng.look [] r⟩),
 (61,⟨fun r=>(Eng.look [(2,[(0,none),(1,none),(5,none)])] r).getD [],fun r=>Eng.look [] r⟩),
 (62,⟨fun r=>(Eng.look [(2,[(0,none),(1,none),(5,none)])] r).getD [],fun r=>Eng.look [] r⟩),
 (75,⟨fun r=>(Eng.look [(4,[(0,none),(8,none),(9,none),(10,none)])] r).getD [],fun r=>Eng.look [(17,[(0,none),(3,none),(4,none),(8,none),(9,none),(10,none)])] r⟩),
 (78,⟨fun r=>(Eng.look [(6,[(1,none),(65,none),(66,none),(67,none)])] r).getD [],fun r=>Eng.look [(5,[(1,none)]),(13,[(1,none)])] r⟩),
 (79,⟨fun r=>(Eng.look [(3,[(4,none),(11,none),(12,none),(13,none)]),(6,[(4,none),(6,none),(11,none),(12,none),(13,none),(18,none),(19,none),(20,none)])] r).getD [],fun r=>Eng.look [] r⟩),
 (80,⟨fun r=>(Eng.look [(2,[(0,none),(3,none)])] r).getD [],fun r=>Eng.look [] r⟩),
 (81,⟨fun r=>(Eng.look [(3,[(3,none),(11,none),(12,none),(13,none)])] r).getD [],fun r=>Eng.look [] r⟩),
 (82,⟨fun r=>(Eng.look [(4,[(1,none),(5,none)])] r).getD [],fun r=>Eng.look [] r⟩),
 (83,⟨fun r=>(Eng.look [(4,[(0,none),(1,none),(5,none)])] r).getD [],fun r=>Eng.look [] r⟩),
 (84,⟨fun r=>(Eng.look [(5,[(1,none),(3,none),(4,none)])] r).getD [],fun r=>Eng.look [] r⟩),
 (87,⟨fun r=>(Eng.look [(5,[(0,none),(5,none),(6,none)])] r).getD [],fun r=>Eng.look [] r⟩),
 (90,⟨fun r=>(Eng.look [(5,[(3,none),(12,none),(13,none),(14,none)])] r).getD [],fun r=>Eng.look [] r⟩),
 (93,⟨fun r=>(Eng.look [(2,[(0,none),(1,none),(5,none)])] r).getD [],fun r=>Eng.look [] r⟩),
 (94,⟨fun r=>(Eng.look [(2,[(0,none),(1,none),(5,none)])] r).getD [],fun r=>Eng.look [] r⟩),
 (96,⟨fun r=>(Eng.look [(5,[(0,none),(4,none),(5,none)])] r).getD [],fun r=>Eng.look [] r⟩),
 (98,⟨fun r=>(Eng.look [(5,[(0,none),(4,none),(17,none),(18,none)])] r).getD [],fun r=>Eng.look [] r⟩),
 (100,⟨fun r=>(Eng.look [(2,[(0,none),(1,none),(5,none)])] r).getD [],fun r=>Eng.look [] r⟩),
 (101,⟨fun r=>(Eng.look [(2,[(0,none),(1,none),(5,none)])] r).getD [],fun r=>Eng.look [] r⟩),
 (106,⟨fun r=>(Eng.look [(5,[(0,none),(5,none),(6,none)])] r).getD [],fun r=>Eng.look [] r⟩),
 (108,⟨fun r=>(Eng.look [(4,[(0,none),(1,none),(12,none),(13,none)])] r).getD [],fun r=>Eng.look [] r⟩),
 (109,⟨fun r=>(Eng.look [(4,[(0,none),(1,none),(12,none),(13,none)])] r).getD [],fun r=>Eng.look [] r⟩),
 (110,⟨fun r=>(Eng.look [(3,[(3,none),(6,none),(7,none),(8,none)])] r).getD [],fun r=>Eng.look [] r⟩),
 (112,⟨fun r=>(Eng.look [(2,[(0,none),(1,none),(7,none),(8,none)])] r).getD [],fun r=>Eng.look [] r⟩),
 (118,⟨fun r=>(Eng.look [(2,[(1,none),(7,none),(8,none),(9,none)])] r).getD [],fun r=>Eng.look [] r⟩),
 (119,⟨fun r=>(Eng.look [(2,[(0,none),(6,none),(7,none),(8,none)])] r).getD [],fun r=>Eng.look [] r⟩),
 (121,⟨fun r=>(Eng.look [(5,[(3,none),(12,none),(13,none),(14,none)])] r).getD [],fun r=>Eng.look [] r⟩),
 (127,⟨fun r=>(Eng.look [(4,[(0,none),(1,none),(5,none)])] r).getD [],fun r=>Eng.look [] r⟩),
 (128,⟨fun r=>(Eng.look [(4,[(0,none),(1,none),(5,none)])] r).getD [],fun r=>Eng.look [] r⟩),
 (135,⟨fun r=>(Eng.look [(4,[(1,none),(12,none),(13,none),(14,none)])] r).getD [],fun r=>Eng.look [] r⟩),
 (136,⟨fun r=>(Eng.look [(4,[(1,none),(12,none),(13,none),(14,none)])] r).getD [],fun r=>Eng.look [] r⟩)] f).getD ⟨fun _=>[],fun _=>none⟩
noncomputable def c_laws_FnExactUnpackFS(k:Nat)(x:(List ByteArray)):Option Bool:=runF E1 H1 k 5 s_laws_FnExactUnpackFS x
noncomputable def c_impl_BlockOwner(k:Nat)(x:Int):Option Int:=runF E1 H1 k 9 s_impl_BlockOwner x
noncomputable def c_impl_IsZeroes(k:Nat)(x:ByteArray):Option Bool:=runF E1 H1 k 10 s_impl_IsZeroes x
noncomputable def c_impl_IsFS(k:Nat)(x:DFS):Option Bool:=runF E1 H1 k 14 s_impl_IsFS x
noncomputable def c_impl_PackFS(k:Nat)(x:DFS):Option (List ByteArray):=runF E1 H1 k 18 s_impl_PackFS x
noncomputable def c_laws_eqStringS(k:Nat)(x:((List ByteArray)×(List ByteArray))):Option Bool:=runF E1 H1 k 19 s_laws_eqStringS x
noncomputable def c_laws_eqFS(k:Nat)(x:(DFS×DFS)):Option Bool:=runF E1 H1 k 20 s_laws_eqFS x
noncomputable def c_laws_markStringS(k:Nat)(x:((List ByteArray)×Int)):Option (Int×(List ByteArray)):=runF E1 H1 k 22 s_laws_markStringS x
noncomputable def c_laws_heldStringS(k:Nat)(x:((List ByteArray)×Int)):Option Int:=runF E1 H1 k 23 s_laws_heldStringS x
noncomputable def c_laws_szStringS(k:Nat)(x:((List ByteArray)×Int)):Option Int:=runF E1 H1 k 24 s_laws_szStringS x
noncomputable def c_spec_UnpackFS(k:Nat)(x:(List ByteArray)):Option (DFS×Bool):=runF E1 H1 k 25 s_spec_UnpackFS x
noncomputable def c_laws_toStringS(k:Nat)(x:(List ByteArray)):Option (List ByteArray):=runF E1 H1 k 26 s_laws_toStringS x
noncomputable def c_impl_UnpackFS(k:Nat)(x:(List ByteArray)):Option (DFS×Bool):=runF E1 H1 k 27 s_impl_UnpackFS x
noncomputable def c_laws_heldFS(k:Nat)(x:(DFS×Int)):Option Int:=runF E1 H1 k 28 s_laws_heldFS x
noncomputable def c_impl_isUser(k:Nat)(x:Int):Option Bool:=runF E1 H1 k 31 s_impl_isUser x
noncomputable def c_impl_IsInode(k:Nat)(x:DInode):Option Bool:=runF E1 H1 k 37 s_impl_IsInode x
noncomputable def c_spec_IsFS(k:Nat)(x:DFS):Option Bool:=runF E1 H1 k 40 s_spec_IsFS x
noncomputable def c_spec_l18Pack(k:Nat)(x:DFS):Option (List ByteArray):=runF E1 H1 k 41 s_spec_l18Pack x
noncomputable def c_impl_FS_super(k:Nat)(x:(Option DFS)):Option ByteArray:=runF E1 H1 k 44 s_impl_FS_super x
noncomputable def c_slices_Repeat_string_string(k:Nat)(x:((List ByteArray)×Int)):Option (List ByteArray):=runF E1 H1 k 45 s_slices_Repeat_string_string x
noncomputable def c_impl_zeros(k:Nat)(x:Int):Option ByteArray:=runF E1 H1 k 46 s_impl_zeros x
noncomputable def c_impl_CutAll(k:Nat)(x:DerrorAddressString):Option (List ByteArray):=runF E1 H1 k 47 s_impl_CutAll x
noncomputable def c_impl_PackInode(k:Nat)(x:DInode):Option ByteArray:=runF E1 H1 k 48 s_impl_PackInode x
noncomputable def c_laws_eqQuotaS(k:Nat)(x:((List DQuota)×(List DQuota))):Option Bool:=runF E1 H1 k 49 s_laws_eqQuotaS x
noncomputable def c_laws_eqInodeS(k:Nat)(x:((List DInode)×(List DInode))):Option Bool:=runF E1 H1 k 50 s_laws_eqInodeS x
noncomputable def c_laws_markQuotaS(k:Nat)(x:((List DQuota)×Int)):Option (Int×(List DQuota)):=runF E1 H1 k 51 s_laws_markQuotaS x
noncomputable def c_laws_markInodeS(k:Nat)(x:((List DInode)×Int)):Option (Int×(List DInode)):=runF E1 H1 k 52 s_laws_markInodeS x
noncomputable def c_laws_markText(k:Nat)(x:Int):Option ByteArray:=runF E1 H1 k 53 s_laws_markText x
noncomputable def c_spec_GetNumber(k:Nat)(x:(ByteArray×DQuota)):Option (Int×Bool):=runF E1 H1 k 54 s_spec_GetNumber x
noncomputable def c_spec_UnpackInode(k:Nat)(x:ByteArray):Option (DInode×Bool):=runF E1 H1 k 55 s_spec_UnpackInode x
noncomputable def c_spec_l01In(k:Nat)(x:DAclEntry):Option Bool:=runF E1 H1 k 56 s_spec_l01In x
noncomputable def c_impl_GetNumber(k:Nat)(x:(ByteArray×DQuota)):Option (Int×Bool):=runF E1 H1 k 57 s_impl_GetNumber x
noncomputable def c_impl_UnpackInode(k:Nat)(x:ByteArray):Option (DInode×Bool):=runF E1 H1 k 58 s_impl_UnpackInode x
noncomputable def c_impl_Join(k:Nat)(x:((List ByteArray)×ByteArray)):Option ByteArray:=runF E1 H1 k 59 s_impl_Join x
noncomputable def c_slices_Clone_string_string(k:Nat)(x:(List ByteArray)):Option (List ByteArray):=runF E1 H1 k 60 s_slices_Clone_string_string x
noncomputable def c_laws_heldQuotaS(k:Nat)(x:((List DQuota)×Int)):Option Int:=runF E1 H1 k 61 s_laws_heldQuotaS x
noncomputable def c_laws_heldInodeS(k:Nat)(x:((List DInode)×Int)):Option Int:=runF E1 H1 k 62 s_laws_heldInodeS x
noncomputable def c_impl_SameInode(k:Nat)(x:(DInode×DInode)):Option Bool:=runF E1 H1 k 72 s_impl_SameInode x
noncomputable def c_impl_isMode(k:Nat)(x:Int):Option Bool:=runF E1 H1 k 73 s_impl_isMode x
noncomputable def c_impl_BlocksNeeded(k:Nat)(x:Int):Option Int:=runF E1 H1 k 74 s_impl_BlocksNeeded x
noncomputable def c_impl_IsAcl(k:Nat)(x:(List DAclEntry)):Option Bool:=runF E1 H1 k 75 s_impl_IsAcl x
noncomputable def c_slices_Contains_int_int(k:Nat)(x:((List Int)×Int)):Option Bool:=runF E1 H1 k 76 s_slices_Contains_int_int x
noncomputable def c_spec_IsInode(k:Nat)(x:DInode):Option Bool:=runF E1 H1 k 78 s_spec_IsInode x
noncomputable def c_spec_l08Used(k:Nat)(x:DFS):Option ((List Bool)×Bool):=runF E1 H1 k 79 s_spec_l08Used x
noncomputable def c_spec_IsZeroes(k:Nat)(x:ByteArray):Option Bool:=runF E1 H1 k 80 s_spec_IsZeroes x
noncomputable def c_spec_l18Super(k:Nat)(x:DFS):Option ByteArray:=runF E1 H1 k 81 s_spec_l18Super x
noncomputable def c_spec_PadTo(k:Nat)(x:DerrorAddressString):Option ByteArray:=runF E1 H1 k 82 s_spec_PadTo x
noncomputable def c_spec_CutAll(k:Nat)(x:DerrorAddressString):Option (List ByteArray):=runF E1 H1 k 83 s_spec_CutAll x
noncomputable def c_spec_PackInode(k:Nat)(x:DInode):Option ByteArray:=runF E1 H1 k 84 s_spec_PackInode x
noncomputable def c_impl_PutNumber(k:Nat)(x:DQuota):Option ByteArray:=runF E1 H1 k 87 s_impl_PutNumber x
noncomputable def c_impl_PadTo(k:Nat)(x:DerrorAddressString):Option ByteArray:=runF E1 H1 k 88 s_impl_PadTo x
noncomputable def c_impl_PackAcl(k:Nat)(x:(List DAclEntry)):Option ByteArray:=runF E1 H1 k 90 s_impl_PackAcl x
noncomputable def c_laws_eqQuota(k:Nat)(x:(DQuota×DQuota)):Option Bool:=runF E1 H1 k 91 s_laws_eqQuota x
noncomputable def c_laws_eqInode(k:Nat)(x:(DInode×DInode)):Option Bool:=runF E1 H1 k 92 s_laws_eqInode x
noncomputable def c_laws_markIntS(k:Nat)(x:((List Int)×Int)):Option (Int×(List Int)):=runF E1 H1 k 93 s_laws_markIntS x
noncomputable def c_laws_markAclEntryS(k:Nat)(x:((List DAclEntry)×Int)):Option (Int×(List DAclEntry)):=runF E1 H1 k 94 s_laws_markAclEntryS x
noncomputable def c_spec_BlocksNeeded(k:Nat)(x:Int):Option Int:=runF E1 H1 k 95 s_spec_BlocksNeeded x
noncomputable def c_spec_UnpackAcl(k:Nat)(x:ByteArray):Option ((List DAclEntry)×Bool):=runF E1 H1 k 96 s_spec_UnpackAcl x
noncomputable def c_impl_UnpackAcl(k:Nat)(x:ByteArray):Option ((List DAclEntry)×Bool):=runF E1 H1 k 98 s_impl_UnpackAcl x
noncomputable def c_strings_Join(k:Nat)(x:((List ByteArray)×ByteArray)):Option ByteArray:=runF E1 H1 k 99 s_strings_Join x
noncomputable def c_laws_heldIntS(k:Nat)(x:((List Int)×Int)):Option Int:=runF E1 H1 k 100 s_laws_heldIntS x
noncomputable def c_laws_heldAclEntryS(k:Nat)(x:((List DAclEntry)×Int)):Option Int:=runF E1 H1 k 101 s_laws_heldAclEntryS x
noncomputable def c_spec_PutNumber(k:Nat)(x:DQuota):Option ByteArray:=runF E1 H1 k 106 s_spec_PutNumber x
noncomputable def c_slices_Equal_int_int(k:Nat)(x:((List Int)×(List Int))):Option Bool:=runF E1 H1 k 108 s_slices_Equal_int_int x
noncomputable def c_slices_Equal_impl_AclEntry_impl_AclEntry(k:Nat)(x:((List DAclEntry)×(List DAclEntry))):Option Bool:=runF E1 H1 k 109 s_slices_Equal_impl_AclEntry_impl_AclEntry x
noncomputable def c_cmp_Or_int(k:Nat)(x:(List Int)):Option Int:=runF E1 H1 k 110 s_cmp_Or_int x
noncomputable def c_cmp_Compare_int(k:Nat)(x:DQuota):Option Int:=runF E1 H1 k 111 s_cmp_Compare_int x
noncomputable def c_slices_Index_int_int(k:Nat)(x:((List Int)×Int)):Option Int:=runF E1 H1 k 112 s_slices_Index_int_int x
noncomputable def c_spec_SameInode(k:Nat)(x:(DInode×DInode)):Option Bool:=runF E1 H1 k 115 s_spec_SameInode x
noncomputable def c_spec_l06Mode(k:Nat)(x:Int):Option Bool:=runF E1 H1 k 116 s_spec_l06Mode x
noncomputable def c_spec_l06User(k:Nat)(x:Int):Option Bool:=runF E1 H1 k 117 s_spec_l06User x
noncomputable def c_spec_l02Has(k:Nat)(x:((List Int)×Int)):Option Bool:=runF E1 H1 k 118 s_spec_l02Has x
noncomputable def c_spec_IsAcl(k:Nat)(x:(List DAclEntry)):Option Bool:=runF E1 H1 k 119 s_spec_IsAcl x
noncomputable def c_spec_BlockOwner(k:Nat)(x:Int):Option Int:=runF E1 H1 k 120 s_spec_BlockOwner x
noncomputable def c_spec_PackAcl(k:Nat)(x:(List DAclEntry)):Option ByteArray:=runF E1 H1 k 121 s_spec_PackAcl x
noncomputable def c_strings_Repeat(k:Nat)(x:DerrorAddressString):Option ByteArray:=runF E1 H1 k 124 s_strings_Repeat x
noncomputable def c_laws_eqIntS(k:Nat)(x:((List Int)×(List Int))):Option Bool:=runF E1 H1 k 127 s_laws_eqIntS x
noncomputable def c_laws_eqAclEntryS(k:Nat)(x:((List DAclEntry)×(List DAclEntry))):Option Bool:=runF E1 H1 k 128 s_laws_eqAclEntryS x
noncomputable def c_cmp_isNaN_int(k:Nat)(x:Int):Option Bool:=runF E1 H1 k 134 s_cmp_isNaN_int x
noncomputable def c_spec_l02Same(k:Nat)(x:((List Int)×(List Int))):Option Bool:=runF E1 H1 k 135 s_spec_l02Same x
noncomputable def c_spec_l05Same(k:Nat)(x:((List DAclEntry)×(List DAclEntry))):Option Bool:=runF E1 H1 k 136 s_spec_l05Same x
noncomputable def c_spec_l05Entry(k:Nat)(x:DAclEntry):Option Bool:=runF E1 H1 k 137 s_spec_l05Entry x
noncomputable def c_laws_eqAclEntry(k:Nat)(x:(DAclEntry×DAclEntry)):Option Bool:=runF E1 H1 k 141 s_laws_eqAclEntry x
theorem c_slices_Repeat_string_string_run(k:Nat)(x):c_slices_Repeat_string_string (k+1) x=ext_slices_Repeat_string_string x:=by kernel_rfl
theorem c_slices_Clone_string_string_run(k:Nat)(x):c_slices_Clone_string_string (k+1) x=ext_slices_Clone_string_string x:=by kernel_rfl
theorem c_strings_Join_run(k:Nat)(x):c_strings_Join (k+1) x=ext_strings_Join x:=by kernel_rfl
theorem c_strings_Repeat_run(k:Nat)(x):c_strings_Repeat (k+1) x=ext_strings_Repeat x:=by kernel_rfl
end Go.Proofs.Ytnaipddflhjmfaa
