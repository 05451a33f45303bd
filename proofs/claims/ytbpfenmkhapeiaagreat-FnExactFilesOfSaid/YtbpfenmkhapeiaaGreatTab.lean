/- The tables, the residual functions and lemmas of this seat: parts of the proof of the law; conditions: those that each names. -/
import Derived.Test.YtbpfenmkhapeiaaGreatEng6
import Derived.KernelRfl
import Derived.Test.YtbpfenmkhapeiaaGreatProg
set_option maxRecDepth 100000
namespace Go.Proofs.YtbpfenmkhapeiaaGreat
open Go.Eng
abbrev DQuota:Type:=(Int×Int)
abbrev DerrorAddressString:Type:=(ByteArray×Int)
abbrev DProblem:Type:=(Int×DQuota)
abbrev DCred:Type:=(Int×(Int×(List Int)))
abbrev DboundsError:Type:=(Int×(Int×(Bool×Int)))
abbrev DInode:Type:=(Int×(Int×(Int×(Int×(Int×(Int×(Int×((List Int)×((List DProblem)×(List DProblem))))))))))
abbrev DFS:Type:=(Int×((List DQuota)×((List DInode)×(List ByteArray))))
abbrev TerrorAddressStringk:Ty:=(.pair .str (.int .u64))
abbrev TDirEntryk:Ty:=(.pair .str (.int .i64))
abbrev TQuotak:Ty:=(.pair (.int .i64) (.int .i64))
abbrev TProblemk:Ty:=(.pair (.int .i64) TQuotak)
abbrev TboundsErrork:Ty:=(.pair (.int .i64) (.pair (.int .i64) (.pair .bool (.int .u8))))
abbrev TCredo:Ty:=(.pair (.int .i64) (.pair (.int .i64) (.list true (.int .i64))))
abbrev TCredk:Ty:=(.pair (.int .i64) (.pair (.int .i64) (.list false (.int .i64))))
abbrev TInodeo:Ty:=(.pair (.int .i64) (.pair (.int .i64) (.pair (.int .i64) (.pair (.int .i64) (.pair (.int .i64) (.pair (.int .i64) (.pair (.int .i64) (.pair (.list true (.int .i64)) (.pair (.list true TProblemk) (.list true TProblemk))))))))))
abbrev TInodek:Ty:=(.pair (.int .i64) (.pair (.int .i64) (.pair (.int .i64) (.pair (.int .i64) (.pair (.int .i64) (.pair (.int .i64) (.pair (.int .i64) (.pair (.list false (.int .i64)) (.pair (.list false TProblemk) (.list false TProblemk))))))))))
abbrev TFSo:Ty:=(.pair (.int .i64) (.pair (.list true TQuotak) (.pair (.list true TInodeo) (.list true .str))))
abbrev TFSk:Ty:=(.pair (.int .i64) (.pair (.list false TQuotak) (.pair (.list false TInodek) (.list false .str))))
abbrev s_laws_FnExactFilesOf:Sig:=⟨[.val TFSk],[.bool],none⟩
abbrev s_laws_szFS:Sig:=⟨[.val TFSk,.val (.int .i64)],[(.int .i64)],none⟩
abbrev s_laws_toFS:Sig:=⟨[.val TFSk],[TFSo],none⟩
abbrev s_laws_eqFS:Sig:=⟨[.val TFSk,.val TFSk],[.bool],none⟩
abbrev s_laws_markFS:Sig:=⟨[.val TFSo,.val (.int .i64)],[(.int .i64)],none⟩
abbrev s_laws_eqIntS:Sig:=⟨[.val (.list false (.int .i64)),.val (.list false (.int .i64))],[.bool],none⟩
abbrev s_laws_markIntS:Sig:=⟨[.val (.int .i64)],[(.int .i64)],some (false,(.list true (.int .i64)))⟩
abbrev s_spec_FilesOf:Sig:=⟨[.val TFSk],[(.list true .str)],none⟩
abbrev s_impl_FilesOf:Sig:=⟨[.val TFSk],[(.list true .str)],none⟩
abbrev s_laws_eqStringS:Sig:=⟨[.val (.list false .str),.val (.list false .str)],[.bool],none⟩
abbrev s_laws_markStringS:Sig:=⟨[.val (.int .i64)],[(.int .i64)],some (false,(.list true .str))⟩
abbrev s_laws_heldStringS:Sig:=⟨[.val (.list false .str),.val (.int .i64)],[(.int .i64)],none⟩
abbrev s_laws_szQuotaS:Sig:=⟨[.val (.list false TQuotak),.val (.int .i64)],[(.int .i64)],none⟩
abbrev s_laws_szInodeS:Sig:=⟨[.val (.list false TInodek),.val (.int .i64)],[(.int .i64)],none⟩
abbrev s_laws_szStringS:Sig:=⟨[.val (.list false .str),.val (.int .i64)],[(.int .i64)],none⟩
abbrev s_spec_IsFS:Sig:=⟨[.val TFSk],[.bool],none⟩
abbrev s_laws_toQuotaS:Sig:=⟨[.val (.list false TQuotak)],[(.list true TQuotak)],none⟩
abbrev s_laws_toInodeS:Sig:=⟨[.val (.list false TInodek)],[(.list true TInodeo)],none⟩
abbrev s_laws_toStringS:Sig:=⟨[.val (.list false .str)],[(.list true .str)],none⟩
abbrev s_impl_IsFS:Sig:=⟨[.val TFSk],[.bool],none⟩
abbrev s_impl_FS_has:Sig:=⟨[.val (.ptr TFSk),.val (.int .i64)],[.bool],none⟩
abbrev s_laws_eqQuotaS:Sig:=⟨[.val (.list false TQuotak),.val (.list false TQuotak)],[.bool],none⟩
abbrev s_laws_eqInodeS:Sig:=⟨[.val (.list false TInodek),.val (.list false TInodek)],[.bool],none⟩
abbrev s_laws_markQuotaS:Sig:=⟨[.val (.int .i64)],[(.int .i64)],some (false,(.list true TQuotak))⟩
abbrev s_laws_markInodeS:Sig:=⟨[.val (.int .i64)],[(.int .i64)],some (false,(.list true TInodeo))⟩
abbrev s_laws_szIntS:Sig:=⟨[.val (.list false (.int .i64)),.val (.int .i64)],[(.int .i64)],none⟩
abbrev s_laws_toIntS:Sig:=⟨[.val (.list false (.int .i64))],[(.list true (.int .i64))],none⟩
abbrev s_spec_l10Entries:Sig:=⟨[.val TFSk,.val (.int .i64)],[(.list true TDirEntryk)],none⟩
abbrev s_impl_FS_isDir:Sig:=⟨[.val (.ptr TFSk),.val (.int .i64)],[.bool],none⟩
abbrev s_impl_FS_entries:Sig:=⟨[.val (.ptr TFSk),.val (.int .i64)],[(.list true TDirEntryk)],none⟩
abbrev s_impl_record:Sig:=⟨[.val TDirEntryk],[.str],none⟩
abbrev s_spec_PathOf:Sig:=⟨[.val TFSk,.val (.int .i64)],[.str,.bool],none⟩
abbrev s_spec_Join:Sig:=⟨[.val (.list false .str),.val .str],[.str],none⟩
abbrev s_spec_l15Names:Sig:=⟨[.val (.list false TDirEntryk)],[(.list true .str)],none⟩
abbrev s_spec_HexOf:Sig:=⟨[.val .str],[.str],none⟩
abbrev s_spec_l09Text:Sig:=⟨[.val TFSk,.val TInodek],[.str],none⟩
abbrev s_impl_PathOf:Sig:=⟨[.val TFSk,.val (.int .i64)],[.str,.bool],none⟩
abbrev s_impl_FS_shown:Sig:=⟨[.val (.ptr TFSk),.val (.int .i64)],[.str],none⟩
abbrev s_laws_markText:Sig:=⟨[.val (.int .i64)],[.str],none⟩
abbrev s_laws_szInode:Sig:=⟨[.val TInodek,.val (.int .i64)],[(.int .i64)],none⟩
abbrev s_spec_l01In:Sig:=⟨[.val (.int .i64),.val (.int .i64),.val (.int .i64)],[.bool],none⟩
abbrev s_spec_IsInode:Sig:=⟨[.val TInodek],[.bool],none⟩
abbrev s_spec_l08Used:Sig:=⟨[.val TFSk],[(.list true .bool),.bool],none⟩
abbrev s_spec_IsZeroes:Sig:=⟨[.val .str],[.bool],none⟩
abbrev s_laws_toQuota:Sig:=⟨[.val TQuotak],[TQuotak],none⟩
abbrev s_laws_toInode:Sig:=⟨[.val TInodek],[TInodeo],none⟩
abbrev s_impl_IsInode:Sig:=⟨[.val TInodek],[.bool],none⟩
abbrev s_impl_BlockOwner:Sig:=⟨[.val (.int .i64)],[(.int .i64)],none⟩
abbrev s_impl_IsZeroes:Sig:=⟨[.val .str],[.bool],none⟩
abbrev s_laws_eqQuota:Sig:=⟨[.val TQuotak,.val TQuotak],[.bool],none⟩
abbrev s_laws_eqInode:Sig:=⟨[.val TInodek,.val TInodek],[.bool],none⟩
abbrev s_laws_markAclEntryS:Sig:=⟨[.val (.int .i64)],[(.int .i64)],some (false,(.list true TProblemk))⟩
abbrev s_spec_l06User:Sig:=⟨[.val (.int .i64)],[.bool],none⟩
abbrev s_impl_isUser:Sig:=⟨[.val (.int .i64)],[.bool],none⟩
abbrev s_spec_GetNumber:Sig:=⟨[.val .str,.val (.int .i64),.val (.int .i64)],[(.int .i64),.bool],none⟩
abbrev s_spec_IsEntryName:Sig:=⟨[.val .str],[.bool],none⟩
abbrev s_spec_l10Record:Sig:=⟨[.val TDirEntryk],[.str],none⟩
abbrev s_spec_BlocksNeeded:Sig:=⟨[.val (.int .i64)],[(.int .i64)],none⟩
abbrev s_spec_PadTo:Sig:=⟨[.val .str,.val (.int .i64)],[.str],none⟩
abbrev s_impl_CutAll:Sig:=⟨[.val .str,.val (.int .i64)],[(.list true .str)],none⟩
abbrev s_impl_FS_content:Sig:=⟨[.val (.ptr TFSk),.val (.int .i64)],[.str],none⟩
abbrev s_impl_GetNumber:Sig:=⟨[.val .str,.val (.int .i64),.val (.int .i64)],[(.int .i64),.bool],none⟩
abbrev s_impl_IsEntryName:Sig:=⟨[.val .str],[.bool],none⟩
abbrev s_impl_PadTo:Sig:=⟨[.val .str,.val (.int .i64)],[.str],none⟩
abbrev s_impl_PutNumber:Sig:=⟨[.val (.int .i64),.val (.int .i64)],[.str],none⟩
abbrev s_impl_BlocksNeeded:Sig:=⟨[.val (.int .i64)],[(.int .i64)],none⟩
abbrev s_impl_zeros:Sig:=⟨[.val (.int .i64)],[.str],none⟩
abbrev s_spec_l10Parent:Sig:=⟨[.val TFSk,.val (.int .i64)],[(.int .i64),.str,.bool],none⟩
abbrev s_spec_JoinPath:Sig:=⟨[.val (.list false .str)],[.str],none⟩
abbrev s_impl_FS_path:Sig:=⟨[.val (.ptr TFSk),.val (.int .i64)],[(.list true .str),.bool],none⟩
abbrev s_impl_JoinPath:Sig:=⟨[.val (.list false .str)],[.str],none⟩
abbrev s_impl_Join:Sig:=⟨[.val (.list false .str),.val .str],[.str],none⟩
abbrev s_impl_FS_names:Sig:=⟨[.val (.ptr TFSk),.val (.int .i64)],[(.list true .str)],none⟩
abbrev s_impl_HexOf:Sig:=⟨[.val .str],[.str],none⟩
abbrev s_laws_szAclEntryS:Sig:=⟨[.val (.list false TProblemk),.val (.int .i64)],[(.int .i64)],none⟩
abbrev s_spec_SameInode:Sig:=⟨[.val TInodek,.val TInodek],[.bool],none⟩
abbrev s_spec_l06Mode:Sig:=⟨[.val (.int .i64)],[.bool],none⟩
abbrev s_spec_l02Has:Sig:=⟨[.val (.list false (.int .i64)),.val (.int .i64)],[.bool],none⟩
abbrev s_spec_IsAcl:Sig:=⟨[.val (.list false TProblemk)],[.bool],none⟩
abbrev s_spec_BlockOwner:Sig:=⟨[.val (.int .i64)],[(.int .i64)],none⟩
abbrev s_laws_toAclEntryS:Sig:=⟨[.val (.list false TProblemk)],[(.list true TProblemk)],none⟩
abbrev s_impl_SameInode:Sig:=⟨[.val TInodek,.val TInodek],[.bool],none⟩
abbrev s_impl_isMode:Sig:=⟨[.val (.int .i64)],[.bool],none⟩
abbrev s_impl_IsAcl:Sig:=⟨[.val (.list false TProblemk)],[.bool],none⟩
abbrev s_slices_Contains_int_int:Sig:=⟨[.val (.list false (.int .i64)),.val (.int .i64)],[.bool],none⟩
abbrev s_laws_eqAclEntryS:Sig:=⟨[.val (.list false TProblemk),.val (.list false TProblemk)],[.bool],none⟩
abbrev s_spec_PutNumber:Sig:=⟨[.val (.int .i64),.val (.int .i64)],[.str],none⟩
abbrev s_strings_ContainsAny:Sig:=⟨[.val .str,.val .str],[.bool],none⟩
abbrev s_strings_Repeat:Sig:=⟨[.val .str,.val (.int .i64)],[.str],none⟩
abbrev s_impl_FS_parent:Sig:=⟨[.val (.ptr TFSk),.val (.int .i64)],[(.int .i64),.str,.bool],none⟩
abbrev s_strings_Join:Sig:=⟨[.val (.list false .str),.val .str],[.str],none⟩
abbrev s_slices_Sort_string_string:Sig:=⟨[],[],some (false,(.list true .str))⟩
abbrev s_spec_l02Same:Sig:=⟨[.val (.list false (.int .i64)),.val (.list false (.int .i64))],[.bool],none⟩
abbrev s_spec_l05Same:Sig:=⟨[.val (.list false TProblemk),.val (.list false TProblemk)],[.bool],none⟩
abbrev s_spec_l05Entry:Sig:=⟨[.val TProblemk],[.bool],none⟩
abbrev s_laws_toAclEntry:Sig:=⟨[.val TProblemk],[TProblemk],none⟩
abbrev s_slices_Equal_int_int:Sig:=⟨[.val (.list false (.int .i64)),.val (.list false (.int .i64))],[.bool],none⟩
abbrev s_slices_Equal_impl_AclEntry_impl_AclEntry:Sig:=⟨[.val (.list false TProblemk),.val (.list false TProblemk)],[.bool],none⟩
abbrev s_cmp_Or_int:Sig:=⟨[.val (.list false (.int .i64))],[(.int .i64)],none⟩
abbrev s_cmp_Compare_int:Sig:=⟨[.val (.int .i64),.val (.int .i64)],[(.int .i64)],none⟩
abbrev s_slices_Index_int_int:Sig:=⟨[.val (.list false (.int .i64)),.val (.int .i64)],[(.int .i64)],none⟩
abbrev s_laws_eqAclEntry:Sig:=⟨[.val TProblemk,.val TProblemk],[.bool],none⟩
abbrev s_cmp_isNaN_int:Sig:=⟨[.val (.int .i64)],[.bool],none⟩
noncomputable def exts:List ExtE:=[⟨159,s_strings_ContainsAny,ext_strings_ContainsAny⟩,⟨160,s_strings_Repeat,ext_strings_Repeat⟩,⟨164,s_strings_Join,ext_strings_Join⟩,⟨165,s_slices_Sort_string_string,ext_slices_Sort_string_string⟩]
noncomputable def tab:Tab:={
 ty:=[(2,(.int .i64)),(3,(.int .i64)),(4,.bool),(5,(.int .u8)),(9,.str),(22,(.list false TQuotak)),(23,(.list false TInodek)),(24,(.list false .str)),(26,TFSk),(28,(.list false TQuotak)),(29,(.list false TInodek)),(31,TFSk),(37,(.list false (.int .i64))),(59,(.list false TProblemk)),(61,TInodek),(78,(.list false TDirEntryk)),(79,(.list false .bool)),(84,TDirEntryk),(106,(.list false TProblemk)),(108,TInodek),(112,TQuotak),(118,TQuotak),(121,(.arr 56 .bool)),(122,(.ptr TFSk)),(144,(.list false (.int .u8))),(154,TProblemk),(157,(.int .u64)),(164,TProblemk)],
 nf:=[(26,4),(31,4),(61,10),(84,2),(108,10),(112,2),(118,2),(154,3),(164,3)],
 el:=[(24,9,16),(28,112,16),(29,61,128),(37,3,8),(59,154,24),(78,84,24),(79,4,1),(144,5,1)],
 fnT:=[1],
 eqs:=[84,112,118,154,164],
 sig:=[(8,s_laws_FnExactFilesOf),(9,s_laws_szFS),(11,s_laws_toFS),(13,s_laws_eqFS),(14,s_laws_markFS),(20,s_laws_eqIntS),(23,s_laws_markIntS),(34,s_spec_FilesOf),(35,s_impl_FilesOf),(36,s_laws_eqStringS),(37,s_laws_markStringS),(38,s_laws_heldStringS),(39,s_laws_szQuotaS),(40,s_laws_szInodeS),(41,s_laws_szStringS),(43,s_spec_IsFS),(46,s_laws_toQuotaS),(47,s_laws_toInodeS),(48,s_laws_toStringS),(50,s_impl_IsFS),(51,s_impl_FS_has),(53,s_laws_eqQuotaS),(54,s_laws_eqInodeS),(55,s_laws_markQuotaS),(56,s_laws_markInodeS),(59,s_laws_szIntS),(62,s_laws_toIntS),(66,s_spec_l10Entries),(70,s_impl_FS_isDir),(71,s_impl_FS_entries),(74,s_impl_record),(81,s_spec_PathOf),(82,s_spec_Join),(83,s_spec_l15Names),(84,s_spec_HexOf),(85,s_spec_l09Text),(86,s_impl_PathOf),(87,s_impl_FS_shown),(88,s_laws_markText),(89,s_laws_szInode),(91,s_spec_l01In),(92,s_spec_IsInode),(93,s_spec_l08Used),(94,s_spec_IsZeroes),(95,s_laws_toQuota),(96,s_laws_toInode),(100,s_impl_IsInode),(101,s_impl_BlockOwner),(102,s_impl_IsZeroes),(103,s_laws_eqQuota),(104,s_laws_eqInode),(105,s_laws_markAclEntryS),(107,s_spec_l06User),(108,s_impl_isUser),(111,s_spec_GetNumber),(112,s_spec_IsEntryName),(113,s_spec_l10Record),(115,s_spec_BlocksNeeded),(118,s_spec_PadTo),(119,s_impl_CutAll),(120,s_impl_FS_content),(121,s_impl_GetNumber),(122,s_impl_IsEntryName),(123,s_impl_PadTo),(124,s_impl_PutNumber),(125,s_impl_BlocksNeeded),(126,s_impl_zeros),(135,s_spec_l10Parent),(136,s_spec_JoinPath),(137,s_impl_FS_path),(138,s_impl_JoinPath),(139,s_impl_Join),(140,s_impl_FS_names),(141,s_impl_HexOf),(142,s_laws_szAclEntryS),(144,s_spec_SameInode),(145,s_spec_l06Mode),(146,s_spec_l02Has),(147,s_spec_IsAcl),(148,s_spec_BlockOwner),(149,s_laws_toAclEntryS),(152,s_impl_SameInode),(153,s_impl_isMode),(154,s_impl_IsAcl),(155,s_slices_Contains_int_int),(156,s_laws_eqAclEntryS),(158,s_spec_PutNumber),(159,s_strings_ContainsAny),(160,s_strings_Repeat),(163,s_impl_FS_parent),(164,s_strings_Join),(165,s_slices_Sort_string_string),(166,s_spec_l02Same),(167,s_spec_l05Same),(168,s_spec_l05Entry),(169,s_laws_toAclEntry),(170,s_slices_Equal_int_int),(171,s_slices_Equal_impl_AclEntry_impl_AclEntry),(172,s_cmp_Or_int),(173,s_cmp_Compare_int),(174,s_slices_Index_int_int),(175,s_laws_eqAclEntry),(197,s_cmp_isNaN_int)],
 body:=[(8,Tryz.f8),(9,Tryz.f9),(11,Tryz.f11),(13,Tryz.f13),(14,Tryz.f14),(20,Tryz.f20),(23,Tryz.f23),(34,Tryz.f34),(35,Tryz.f35),(36,Tryz.f36),(37,Tryz.f37),(38,Tryz.f38),(39,Tryz.f39),(40,Tryz.f40),(41,Tryz.f41),(43,Tryz.f43),(46,Tryz.f46),(47,Tryz.f47),(48,Tryz.f48),(50,Tryz.f50),(51,Tryz.f51),(53,Tryz.f53),(54,Tryz.f54),(55,Tryz.f55),(56,Tryz.f56),(59,Tryz.f59),(62,Tryz.f62),(66,Tryz.f66),(70,Tryz.f70),(71,Tryz.f71),(74,Tryz.f74),(81,Tryz.f81),(82,Tryz.f82),(83,Tryz.f83),(84,Tryz.f84),(85,Tryz.f85),(86,Tryz.f86),(87,Tryz.f87),(88,Tryz.f88),(89,Tryz.f89),(91,Tryz.f91),(92,Tryz.f92),(93,Tryz.f93),(94,Tryz.f94),(95,Tryz.f95),(96,Tryz.f96),(100,Tryz.f100),(101,Tryz.f101),(102,Tryz.f102),(103,Tryz.f103),(104,Tryz.f104),(105,Tryz.f105),(107,Tryz.f107),(108,Tryz.f108),(111,Tryz.f111),(112,Tryz.f112),(113,Tryz.f113),(115,Tryz.f115),(118,Tryz.f118),(119,Tryz.f119),(120,Tryz.f120),(121,Tryz.f121),(122,Tryz.f122),(123,Tryz.f123),(124,Tryz.f124),(125,Tryz.f125),(126,Tryz.f126),(135,Tryz.f135),(136,Tryz.f136),(137,Tryz.f137),(138,Tryz.f138),(139,Tryz.f139),(140,Tryz.f140),(141,Tryz.f141),(142,Tryz.f142),(144,Tryz.f144),(145,Tryz.f145),(146,Tryz.f146),(147,Tryz.f147),(148,Tryz.f148),(149,Tryz.f149),(152,Tryz.f152),(153,Tryz.f153),(154,Tryz.f154),(155,Tryz.f155),(156,Tryz.f156),(158,Tryz.f158),(163,Tryz.f163),(166,Tryz.f166),(167,Tryz.f167),(168,Tryz.f168),(169,Tryz.f169),(170,Tryz.f170),(171,Tryz.f171),(172,Tryz.f172),(173,Tryz.f173),(174,Tryz.f174),(175,Tryz.f175),(197,Tryz.f197)]}
noncomputable def E1:Env:=tab.env (extOf exts)
noncomputable def H1:Nat→Hints:=fun f=>(Eng.look [(20,⟨fun r=>(Eng.look [(4,[(0,none),(1,none),(5,none)])] r).getD [],fun r=>Eng.look [] r⟩),
 (23,⟨fun r=>(Eng.look [(2,[(0,none),(1,none),(5,none)])] r).getD [],fun r=>Eng.look [] r⟩),
 (34,⟨fun r=>(Eng.look [(5,[(1,none),(3,none),(13,none),(14,none),(15,none)])] r).getD [],fun r=>Eng.look [(11,[(1,none),(3,none),(4,none),(5,none),(6,none),(13,none),(14,none),(15,none)])] r⟩),
 (35,⟨fun r=>(Eng.look [(5,[(1,none),(3,none),(11,none)])] r).getD [],fun r=>Eng.look [(11,[(1,none),(3,none),(4,none),(5,none),(11,none)])] r⟩),
 (36,⟨fun r=>(Eng.look [(4,[(0,none),(1,none),(5,none)])] r).getD [],fun r=>Eng.look [] r⟩),
 (37,⟨fun r=>(Eng.look [(2,[(0,none),(1,none),(5,none)])] r).getD [],fun r=>Eng.look [] r⟩),
 (38,⟨fun r=>(Eng.look [(2,[(0,none),(1,none),(5,none)])] r).getD [],fun r=>Eng.look [] r⟩),
 (40,⟨fun r=>(Eng.look [(5,[(0,none),(1,none),(5,none)])] r).getD [],fun r=>Eng.look [] r⟩),
 (41,⟨fun r=>(Eng.look [(5,[(0,none),(1,none),(5,none)])] r).getD [],fun r=>Eng.look [] r⟩),
 (43,⟨fun r=>(Eng.look [(4,[(1,none),(37,none),(38,none),(39,none)]),(10,[(1,none),(55,none),(56,none),(57,none)]),(21,[(1,none),(7,none),(79,none),(80,none),(81,none)]),(27,[(1,none),(103,none),(104,none),(105,none)])] r).getD [],fun r=>Eng.look [] r⟩),
 (46,⟨fun r=>(Eng.look [(3,[(0,none),(3,none),(4,none)])] r).getD [],fun r=>Eng.look [] r⟩),
 (47,⟨fun r=>(Eng.look [(3,[(0,none),(3,none),(4,none)])] r).getD [],fun r=>Eng.look [] r⟩),
 (48,⟨fun r=>(Eng.look [(3,[(0,none),(3,none),(4,none)])] r).getD [],fun r=>Eng.look [] r⟩),
 (50,⟨fun r=>(Eng.look [(4,[(1,none),(42,none),(43,none),(44,none)]),(10,[(1,none),(68,none),(69,none),(70,none)]),(17,[(1,none),(7,none),(79,none),(80,none),(81,none)]),(22,[(1,none),(7,none),(9,none),(79,none),(80,none),(81,none),(89,none),(90,none),(91,none)]),(34,[(1,none),(7,none),(131,none),(132,none),(133,none)])] r).getD [],fun r=>Eng.look [] r⟩),
 (53,⟨fun r=>(Eng.look [(4,[(0,none),(1,none),(5,none)])] r).getD [],fun r=>Eng.look [] r⟩),
 (54,⟨fun r=>(Eng.look [(4,[(0,none),(1,none),(5,none)])] r).getD [],fun r=>Eng.look [] r⟩),
 (55,⟨fun r=>(Eng.look [(2,[(0,none),(1,none),(5,none)])] r).getD [],fun r=>Eng.look [] r⟩),
 (56,⟨fun r=>(Eng.look [(2,[(0,none),(1,none),(5,none)])] r).getD [],fun r=>Eng.look [] r⟩),
 (62,⟨fun r=>(Eng.look [(3,[(0,none),(3,none),(4,none)])] r).getD [],fun r=>Eng.look [] r⟩),
 (66,⟨fun r=>(Eng.look [(4,[(5,none),(6,none),(7,none)])] r).getD [],fun r=>Eng.look [] r⟩),
 (71,⟨fun r=>(Eng.look [(3,[(5,none),(15,none),(16,none),(17,none)])] r).getD [],fun r=>Eng.look [] r⟩),
 (81,⟨fun r=>(Eng.look [(4,[(1,none),(2,none),(6,none)])] r).getD [],fun r=>Eng.look [] r⟩),
 (82,⟨fun r=>(Eng.look [(3,[(1,none),(5,none),(8,none),(9,none),(10,none)])] r).getD [],fun r=>Eng.look [] r⟩),
 (83,⟨fun r=>(Eng.look [(3,[(3,none),(9,none),(10,none),(11,none)]),(6,[(3,none),(5,none),(6,none),(9,none),(10,none),(11,none)])] r).getD [],fun r=>Eng.look [] r⟩),
 (84,⟨fun r=>(Eng.look [(3,[(0,none),(3,none),(4,none)])] r).getD [],fun r=>Eng.look [] r⟩),
 (85,⟨fun r=>(Eng.look [(3,[(2,none),(3,none),(5,none),(9,none),(10,none),(11,none)])] r).getD [],fun r=>Eng.look [] r⟩),
 (88,⟨fun r=>(Eng.look [(4,[(0,none),(3,none)])] r).getD [],fun r=>Eng.look [] r⟩),
 (92,⟨fun r=>(Eng.look [(6,[(1,none),(65,none),(66,none),(67,none)])] r).getD [],fun r=>Eng.look [(5,[(1,none)]),(13,[(1,none)])] r⟩),
 (93,⟨fun r=>(Eng.look [(3,[(4,none),(11,none),(12,none),(13,none)]),(6,[(4,none),(6,none),(11,none),(12,none),(13,none),(18,none),(19,none),(20,none)])] r).getD [],fun r=>Eng.look [] r⟩),
 (94,⟨fun r=>(Eng.look [(2,[(0,none),(3,none)])] r).getD [],fun r=>Eng.look [] r⟩),
 (100,⟨fun r=>(Eng.look [(10,[(1,none),(83,none),(84,none),(85,none)])] r).getD [],fun r=>Eng.look [(7,[(1,none)])] r⟩),
 (102,⟨fun r=>(Eng.look [(2,[(0,none),(5,none),(6,none)])] r).getD [],fun r=>Eng.look [] r⟩),
 (105,⟨fun r=>(Eng.look [(2,[(0,none),(1,none),(5,none)])] r).getD [],fun r=>Eng.look [] r⟩),
 (111,⟨fun r=>(Eng.look [(5,[(0,none),(1,none),(2,none),(8,none),(9,none)])] r).getD [],fun r=>Eng.look [] r⟩),
 (112,⟨fun r=>(Eng.look [(4,[(0,none),(3,none)])] r).getD [],fun r=>Eng.look [] r⟩),
 (118,⟨fun r=>(Eng.look [(4,[(1,none),(5,none)])] r).getD [],fun r=>Eng.look [] r⟩),
 (119,⟨fun r=>(Eng.look [(4,[(0,none),(1,none),(5,none)])] r).getD [],fun r=>Eng.look [] r⟩),
 (120,⟨fun r=>(Eng.look [(3,[(0,none),(5,none),(6,none),(17,none),(18,none),(19,none)])] r).getD [],fun r=>Eng.look [] r⟩),
 (121,⟨fun r=>(Eng.look [(5,[(0,none),(1,none),(8,none),(28,none),(29,none)])] r).getD [],fun r=>Eng.look [] r⟩),
 (124,⟨fun r=>(Eng.look [(5,[(0,none),(5,none),(6,none)])] r).getD [],fun r=>Eng.look [] r⟩),
 (135,⟨fun r=>(Eng.look [(2,[(1,none),(2,none),(12,none),(13,none),(14,none)]),(6,[(1,none),(2,none),(7,none),(12,none),(13,none),(14,none),(24,none),(25,none),(26,none)])] r).getD [],fun r=>Eng.look [] r⟩),
 (136,⟨fun r=>(Eng.look [(3,[(0,none),(3,none),(6,none),(7,none),(8,none)])] r).getD [],fun r=>Eng.look [] r⟩),
 (137,⟨fun r=>(Eng.look [(2,[(0,none),(1,none),(6,none)])] r).getD [],fun r=>Eng.look [] r⟩),
 (140,⟨fun r=>(Eng.look [(3,[(5,none),(11,none),(12,none),(13,none)])] r).getD [],fun r=>Eng.look [] r⟩),
 (141,⟨fun r=>(Eng.look [(3,[(0,none),(3,none),(7,none),(8,none)])] r).getD [],fun r=>Eng.look [] r⟩),
 (146,⟨fun r=>(Eng.look [(2,[(1,none),(7,none),(8,none),(9,none)])] r).getD [],fun r=>Eng.look [] r⟩),
 (147,⟨fun r=>(Eng.look [(2,[(0,none),(6,none),(7,none),(8,none)])] r).getD [],fun r=>Eng.look [] r⟩),
 (149,⟨fun r=>(Eng.look [(3,[(0,none),(3,none),(4,none)])] r).getD [],fun r=>Eng.look [] r⟩),
 (154,⟨fun r=>(Eng.look [(4,[(0,none),(8,none),(9,none),(10,none)])] r).getD [],fun r=>Eng.look [(17,[(0,none),(3,none),(4,none),(8,none),(9,none),(10,none)])] r⟩),
 (156,⟨fun r=>(Eng.look [(4,[(0,none),(1,none),(5,none)])] r).getD [],fun r=>Eng.look [] r⟩),
 (158,⟨fun r=>(Eng.look [(5,[(0,none),(5,none),(6,none)])] r).getD [],fun r=>Eng.look [] r⟩),
 (163,⟨fun r=>(Eng.look [(2,[(0,none),(1,none),(10,none)]),(6,[(0,none),(1,none),(7,none),(10,none),(19,none),(20,none),(21,none)])] r).getD [],fun r=>Eng.look [] r⟩),
 (166,⟨fun r=>(Eng.look [(4,[(1,none),(12,none),(13,none),(14,none)])] r).getD [],fun r=>Eng.look [] r⟩),
 (167,⟨fun r=>(Eng.look [(4,[(1,none),(12,none),(13,none),(14,none)])] r).getD [],fun r=>Eng.look [] r⟩),
 (170,⟨fun r=>(Eng.look [(4,[(0,none),(1,none),(12,none),(13,none)])] r).getD [],fun r=>Eng.look [] r⟩),
 (171,⟨fun r=>(Eng.look [(4,[(0,none),(1,none),(12,none),(13,none)])] r).getD [],fun r=>Eng.look [] r⟩),
 (172,⟨fun r=>(Eng.look [(3,[(3,none),(6,none),(7,none),(8,none)])] r).getD [],fun r=>Eng.look [] r⟩),
 (174,⟨fun r=>(Eng.look [(2,[(0,none),(1,none),(7,none),(8,none)])] r).getD [],fun r=>Eng.look [] r⟩)] f).getD ⟨fun _=>[],fun _=>none⟩
noncomputable def c_laws_FnExactFilesOf(k:Nat)(x:DFS):Option Bool:=runF E1 H1 k 8 s_laws_FnExactFilesOf x
noncomputable def c_laws_szFS(k:Nat)(x:(DFS×Int)):Option Int:=runF E1 H1 k 9 s_laws_szFS x
noncomputable def c_laws_toFS(k:Nat)(x:DFS):Option DFS:=runF E1 H1 k 11 s_laws_toFS x
noncomputable def c_laws_eqFS(k:Nat)(x:(DFS×DFS)):Option Bool:=runF E1 H1 k 13 s_laws_eqFS x
noncomputable def c_laws_markFS(k:Nat)(x:(DFS×Int)):Option Int:=runF E1 H1 k 14 s_laws_markFS x
noncomputable def c_laws_eqIntS(k:Nat)(x:((List Int)×(List Int))):Option Bool:=runF E1 H1 k 20 s_laws_eqIntS x
noncomputable def c_laws_markIntS(k:Nat)(x:((List Int)×Int)):Option (Int×(List Int)):=runF E1 H1 k 23 s_laws_markIntS x
noncomputable def c_spec_FilesOf(k:Nat)(x:DFS):Option (List ByteArray):=runF E1 H1 k 34 s_spec_FilesOf x
noncomputable def c_impl_FilesOf(k:Nat)(x:DFS):Option (List ByteArray):=runF E1 H1 k 35 s_impl_FilesOf x
noncomputable def c_laws_eqStringS(k:Nat)(x:((List ByteArray)×(List ByteArray))):Option Bool:=runF E1 H1 k 36 s_laws_eqStringS x
noncomputable def c_laws_markStringS(k:Nat)(x:((List ByteArray)×Int)):Option (Int×(List ByteArray)):=runF E1 H1 k 37 s_laws_markStringS x
noncomputable def c_laws_heldStringS(k:Nat)(x:((List ByteArray)×Int)):Option Int:=runF E1 H1 k 38 s_laws_heldStringS x
noncomputable def c_laws_szQuotaS(k:Nat)(x:((List DQuota)×Int)):Option Int:=runF E1 H1 k 39 s_laws_szQuotaS x
noncomputable def c_laws_szInodeS(k:Nat)(x:((List DInode)×Int)):Option Int:=runF E1 H1 k 40 s_laws_szInodeS x
noncomputable def c_laws_szStringS(k:Nat)(x:((List ByteArray)×Int)):Option Int:=runF E1 H1 k 41 s_laws_szStringS x
noncomputable def c_spec_IsFS(k:Nat)(x:DFS):Option Bool:=runF E1 H1 k 43 s_spec_IsFS x
noncomputable def c_laws_toQuotaS(k:Nat)(x:(List DQuota)):Option (List DQuota):=runF E1 H1 k 46 s_laws_toQuotaS x
noncomputable def c_laws_toInodeS(k:Nat)(x:(List DInode)):Option (List DInode):=runF E1 H1 k 47 s_laws_toInodeS x
noncomputable def c_laws_toStringS(k:Nat)(x:(List ByteArray)):Option (List ByteArray):=runF E1 H1 k 48 s_laws_toStringS x
noncomputable def c_impl_IsFS(k:Nat)(x:DFS):Option Bool:=runF E1 H1 k 50 s_impl_IsFS x
noncomputable def c_impl_FS_has(k:Nat)(x:((Option DFS)×Int)):Option Bool:=runF E1 H1 k 51 s_impl_FS_has x
noncomputable def c_laws_eqQuotaS(k:Nat)(x:((List DQuota)×(List DQuota))):Option Bool:=runF E1 H1 k 53 s_laws_eqQuotaS x
noncomputable def c_laws_eqInodeS(k:Nat)(x:((List DInode)×(List DInode))):Option Bool:=runF E1 H1 k 54 s_laws_eqInodeS x
noncomputable def c_laws_markQuotaS(k:Nat)(x:((List DQuota)×Int)):Option (Int×(List DQuota)):=runF E1 H1 k 55 s_laws_markQuotaS x
noncomputable def c_laws_markInodeS(k:Nat)(x:((List DInode)×Int)):Option (Int×(List DInode)):=runF E1 H1 k 56 s_laws_markInodeS x
noncomputable def c_laws_szIntS(k:Nat)(x:((List Int)×Int)):Option Int:=runF E1 H1 k 59 s_laws_szIntS x
noncomputable def c_laws_toIntS(k:Nat)(x:(List Int)):Option (List Int):=runF E1 H1 k 62 s_laws_toIntS x
noncomputable def c_spec_l10Entries(k:Nat)(x:(DFS×Int)):Option (List DerrorAddressString):=runF E1 H1 k 66 s_spec_l10Entries x
noncomputable def c_impl_FS_isDir(k:Nat)(x:((Option DFS)×Int)):Option Bool:=runF E1 H1 k 70 s_impl_FS_isDir x
noncomputable def c_impl_FS_entries(k:Nat)(x:((Option DFS)×Int)):Option (List DerrorAddressString):=runF E1 H1 k 71 s_impl_FS_entries x
noncomputable def c_impl_record(k:Nat)(x:DerrorAddressString):Option ByteArray:=runF E1 H1 k 74 s_impl_record x
noncomputable def c_spec_PathOf(k:Nat)(x:(DFS×Int)):Option (ByteArray×Bool):=runF E1 H1 k 81 s_spec_PathOf x
noncomputable def c_spec_Join(k:Nat)(x:((List ByteArray)×ByteArray)):Option ByteArray:=runF E1 H1 k 82 s_spec_Join x
noncomputable def c_spec_l15Names(k:Nat)(x:(List DerrorAddressString)):Option (List ByteArray):=runF E1 H1 k 83 s_spec_l15Names x
noncomputable def c_spec_HexOf(k:Nat)(x:ByteArray):Option ByteArray:=runF E1 H1 k 84 s_spec_HexOf x
noncomputable def c_spec_l09Text(k:Nat)(x:(DFS×DInode)):Option ByteArray:=runF E1 H1 k 85 s_spec_l09Text x
noncomputable def c_impl_PathOf(k:Nat)(x:(DFS×Int)):Option (ByteArray×Bool):=runF E1 H1 k 86 s_impl_PathOf x
noncomputable def c_impl_FS_shown(k:Nat)(x:((Option DFS)×Int)):Option ByteArray:=runF E1 H1 k 87 s_impl_FS_shown x
noncomputable def c_laws_markText(k:Nat)(x:Int):Option ByteArray:=runF E1 H1 k 88 s_laws_markText x
noncomputable def c_laws_szInode(k:Nat)(x:(DInode×Int)):Option Int:=runF E1 H1 k 89 s_laws_szInode x
noncomputable def c_spec_l01In(k:Nat)(x:DProblem):Option Bool:=runF E1 H1 k 91 s_spec_l01In x
noncomputable def c_spec_IsInode(k:Nat)(x:DInode):Option Bool:=runF E1 H1 k 92 s_spec_IsInode x
noncomputable def c_spec_l08Used(k:Nat)(x:DFS):Option ((List Bool)×Bool):=runF E1 H1 k 93 s_spec_l08Used x
noncomputable def c_spec_IsZeroes(k:Nat)(x:ByteArray):Option Bool:=runF E1 H1 k 94 s_spec_IsZeroes x
noncomputable def c_laws_toQuota(k:Nat)(x:DQuota):Option DQuota:=runF E1 H1 k 95 s_laws_toQuota x
noncomputable def c_laws_toInode(k:Nat)(x:DInode):Option DInode:=runF E1 H1 k 96 s_laws_toInode x
noncomputable def c_impl_IsInode(k:Nat)(x:DInode):Option Bool:=runF E1 H1 k 100 s_impl_IsInode x
noncomputable def c_impl_BlockOwner(k:Nat)(x:Int):Option Int:=runF E1 H1 k 101 s_impl_BlockOwner x
noncomputable def c_impl_IsZeroes(k:Nat)(x:ByteArray):Option Bool:=runF E1 H1 k 102 s_impl_IsZeroes x
noncomputable def c_laws_eqQuota(k:Nat)(x:(DQuota×DQuota)):Option Bool:=runF E1 H1 k 103 s_laws_eqQuota x
noncomputable def c_laws_eqInode(k:Nat)(x:(DInode×DInode)):Option Bool:=runF E1 H1 k 104 s_laws_eqInode x
noncomputable def c_laws_markAclEntryS(k:Nat)(x:((List DProblem)×Int)):Option (Int×(List DProblem)):=runF E1 H1 k 105 s_laws_markAclEntryS x
noncomputable def c_spec_l06User(k:Nat)(x:Int):Option Bool:=runF E1 H1 k 107 s_spec_l06User x
noncomputable def c_impl_isUser(k:Nat)(x:Int):Option Bool:=runF E1 H1 k 108 s_impl_isUser x
noncomputable def c_spec_GetNumber(k:Nat)(x:(ByteArray×DQuota)):Option (Int×Bool):=runF E1 H1 k 111 s_spec_GetNumber x
noncomputable def c_spec_IsEntryName(k:Nat)(x:ByteArray):Option Bool:=runF E1 H1 k 112 s_spec_IsEntryName x
noncomputable def c_spec_l10Record(k:Nat)(x:DerrorAddressString):Option ByteArray:=runF E1 H1 k 113 s_spec_l10Record x
noncomputable def c_spec_BlocksNeeded(k:Nat)(x:Int):Option Int:=runF E1 H1 k 115 s_spec_BlocksNeeded x
noncomputable def c_spec_PadTo(k:Nat)(x:DerrorAddressString):Option ByteArray:=runF E1 H1 k 118 s_spec_PadTo x
noncomputable def c_impl_CutAll(k:Nat)(x:DerrorAddressString):Option (List ByteArray):=runF E1 H1 k 119 s_impl_CutAll x
noncomputable def c_impl_FS_content(k:Nat)(x:((Option DFS)×Int)):Option ByteArray:=runF E1 H1 k 120 s_impl_FS_content x
noncomputable def c_impl_GetNumber(k:Nat)(x:(ByteArray×DQuota)):Option (Int×Bool):=runF E1 H1 k 121 s_impl_GetNumber x
noncomputable def c_impl_IsEntryName(k:Nat)(x:ByteArray):Option Bool:=runF E1 H1 k 122 s_impl_IsEntryName x
noncomputable def c_impl_PadTo(k:Nat)(x:DerrorAddressString):Option ByteArray:=runF E1 H1 k 123 s_impl_PadTo x
noncomputable def c_impl_PutNumber(k:Nat)(x:DQuota):Option ByteArray:=runF E1 H1 k 124 s_impl_PutNumber x
noncomputable def c_impl_BlocksNeeded(k:Nat)(x:Int):Option Int:=runF E1 H1 k 125 s_impl_BlocksNeeded x
noncomputable def c_impl_zeros(k:Nat)(x:Int):Option ByteArray:=runF E1 H1 k 126 s_impl_zeros x
noncomputable def c_spec_l10Parent(k:Nat)(x:(DFS×Int)):Option (Int×(ByteArray×Bool)):=runF E1 H1 k 135 s_spec_l10Parent x
noncomputable def c_spec_JoinPath(k:Nat)(x:(List ByteArray)):Option ByteArray:=runF E1 H1 k 136 s_spec_JoinPath x
noncomputable def c_impl_FS_path(k:Nat)(x:((Option DFS)×Int)):Option ((List ByteArray)×Bool):=runF E1 H1 k 137 s_impl_FS_path x
noncomputable def c_impl_JoinPath(k:Nat)(x:(List ByteArray)):Option ByteArray:=runF E1 H1 k 138 s_impl_JoinPath x
noncomputable def c_impl_Join(k:Nat)(x:((List ByteArray)×ByteArray)):Option ByteArray:=runF E1 H1 k 139 s_impl_Join x
noncomputable def c_impl_FS_names(k:Nat)(x:((Option DFS)×Int)):Option (List ByteArray):=runF E1 H1 k 140 s_impl_FS_names x
noncomputable def c_impl_HexOf(k:Nat)(x:ByteArray):Option ByteArray:=runF E1 H1 k 141 s_impl_HexOf x
noncomputable def c_laws_szAclEntryS(k:Nat)(x:((List DProblem)×Int)):Option Int:=runF E1 H1 k 142 s_laws_szAclEntryS x
noncomputable def c_spec_SameInode(k:Nat)(x:(DInode×DInode)):Option Bool:=runF E1 H1 k 144 s_spec_SameInode x
noncomputable def c_spec_l06Mode(k:Nat)(x:Int):Option Bool:=runF E1 H1 k 145 s_spec_l06Mode x
noncomputable def c_spec_l02Has(k:Nat)(x:((List Int)×Int)):Option Bool:=runF E1 H1 k 146 s_spec_l02Has x
noncomputable def c_spec_IsAcl(k:Nat)(x:(List DProblem)):Option Bool:=runF E1 H1 k 147 s_spec_IsAcl x
noncomputable def c_spec_BlockOwner(k:Nat)(x:Int):Option Int:=runF E1 H1 k 148 s_spec_BlockOwner x
noncomputable def c_laws_toAclEntryS(k:Nat)(x:(List DProblem)):Option (List DProblem):=runF E1 H1 k 149 s_laws_toAclEntryS x
noncomputable def c_impl_SameInode(k:Nat)(x:(DInode×DInode)):Option Bool:=runF E1 H1 k 152 s_impl_SameInode x
noncomputable def c_impl_isMode(k:Nat)(x:Int):Option Bool:=runF E1 H1 k 153 s_impl_isMode x
noncomputable def c_impl_IsAcl(k:Nat)(x:(List DProblem)):Option Bool:=runF E1 H1 k 154 s_impl_IsAcl x
noncomputable def c_slices_Contains_int_int(k:Nat)(x:((List Int)×Int)):Option Bool:=runF E1 H1 k 155 s_slices_Contains_int_int x
noncomputable def c_laws_eqAclEntryS(k:Nat)(x:((List DProblem)×(List DProblem))):Option Bool:=runF E1 H1 k 156 s_laws_eqAclEntryS x
noncomputable def c_spec_PutNumber(k:Nat)(x:DQuota):Option ByteArray:=runF E1 H1 k 158 s_spec_PutNumber x
noncomputable def c_strings_ContainsAny(k:Nat)(x:(ByteArray×ByteArray)):Option Bool:=runF E1 H1 k 159 s_strings_ContainsAny x
noncomputable def c_strings_Repeat(k:Nat)(x:DerrorAddressString):Option ByteArray:=runF E1 H1 k 160 s_strings_Repeat x
noncomputable def c_impl_FS_parent(k:Nat)(x:((Option DFS)×Int)):Option (Int×(ByteArray×Bool)):=runF E1 H1 k 163 s_impl_FS_parent x
noncomputable def c_strings_Join(k:Nat)(x:((List ByteArray)×ByteArray)):Option ByteArray:=runF E1 H1 k 164 s_strings_Join x
noncomputable def c_slices_Sort_string_string(k:Nat)(x:(List ByteArray)):Option (List ByteArray):=runF E1 H1 k 165 s_slices_Sort_string_string x
noncomputable def c_spec_l02Same(k:Nat)(x:((List Int)×(List Int))):Option Bool:=runF E1 H1 k 166 s_spec_l02Same x
noncomputable def c_spec_l05Same(k:Nat)(x:((List DProblem)×(List DProblem))):Option Bool:=runF E1 H1 k 167 s_spec_l05Same x
noncomputable def c_spec_l05Entry(k:Nat)(x:DProblem):Option Bool:=runF E1 H1 k 168 s_spec_l05Entry x
noncomputable def c_laws_toAclEntry(k:Nat)(x:DProblem):Option DProblem:=runF E1 H1 k 169 s_laws_toAclEntry x
noncomputable def c_slices_Equal_int_int(k:Nat)(x:((List Int)×(List Int))):Option Bool:=runF E1 H1 k 170 s_slices_Equal_int_int x
noncomputable def c_slices_Equal_impl_AclEntry_impl_AclEntry(k:Nat)(x:((List DProblem)×(List DProblem))):Option Bool:=runF E1 H1 k 171 s_slices_Equal_impl_AclEntry_impl_AclEntry x
noncomputable def c_cmp_Or_int(k:Nat)(x:(List Int)):Option Int:=runF E1 H1 k 172 s_cmp_Or_int x
noncomputable def c_cmp_Compare_int(k:Nat)(x:DQuota):Option Int:=runF E1 H1 k 173 s_cmp_Compare_int x
noncomputable def c_slices_Index_int_int(k:Nat)(x:((List Int)×Int)):Option Int:=runF E1 H1 k 174 s_slices_Index_int_int x
noncomputable def c_laws_eqAclEntry(k:Nat)(x:(DProblem×DProblem)):Option Bool:=runF E1 H1 k 175 s_laws_eqAclEntry x
noncomputable def c_cmp_isNaN_int(k:Nat)(x:Int):Option Bool:=runF E1 H1 k 197 s_cmp_isNaN_int x
theorem c_strings_ContainsAny_run(k:Nat)(x):c_strings_ContainsAny (k+1) x=ext_strings_ContainsAny x:=by kernel_rfl
theorem c_strings_Repeat_run(k:Nat)(x):c_strings_Repeat (k+1) x=ext_strings_Repeat x:=by kernel_rfl
theorem c_strings_Join_run(k:Nat)(x):c_strings_Join (k+1) x=ext_strings_Join x:=by kernel_rfl
theorem c_slices_Sort_string_string_run(k:Nat)(x):c_slices_Sort_string_string (k+1) x=ext_slices_Sort_string_string x:=by kernel_rfl
end Go.Proofs.YtbpfenmkhapeiaaGreat
