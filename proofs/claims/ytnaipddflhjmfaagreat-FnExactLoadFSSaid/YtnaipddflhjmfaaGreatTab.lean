/- The tables, the residual functions and lemmas of this seat: parts of the proof of the law; conditions: those that each names. -/
import Derived.Test.YtnaipddflhjmfaaGreatEng5
import Derived.KernelRfl
import Derived.Test.YtnaipddflhjmfaaGreatProg
set_option maxRecDepth 100000
namespace Go.Proofs.YtnaipddflhjmfaaGreat
open Go.Eng
abbrev DQuota:Type:=(Int×Int)
abbrev DerrorAddressString:Type:=(ByteArray×Int)
abbrev DWrite:Type:=(Int×ByteArray)
abbrev DOpen:Type:=(Int×DQuota)
abbrev DCred:Type:=(Int×(Int×(List Int)))
abbrev Dl01Cur:Type:=((List Int)×DQuota)
abbrev DStep:Type:=(Bool×DWrite)
abbrev DboundsError:Type:=(Int×(Int×(Bool×Int)))
abbrev DDisk:Type:=((List ByteArray)×(List DWrite))
abbrev DProc:Type:=(DCred×(List DOpen))
abbrev DInode:Type:=(Int×(Int×(Int×(Int×(Int×(Int×(Int×((List Int)×((List DOpen)×(List DOpen))))))))))
abbrev DFS:Type:=(Int×((List DQuota)×((List DInode)×(List ByteArray))))
abbrev DSystem:Type:=(DFS×(List DProc))
abbrev DMachine:Type:=(DDisk×(Int×DSystem))
abbrev TerrorAddressStringk:Ty:=(.pair .str (.int .u64))
abbrev TWritek:Ty:=(.pair (.int .i64) .str)
abbrev TQuotak:Ty:=(.pair (.int .i64) (.int .i64))
abbrev TStepk:Ty:=(.pair .bool TWritek)
abbrev TOpenk:Ty:=(.pair (.int .i64) TQuotak)
abbrev TDisko:Ty:=(.pair (.list true .str) (.list true TWritek))
abbrev Tl01Curo:Ty:=(.pair (.list true (.int .u8)) TQuotak)
abbrev TboundsErrork:Ty:=(.pair (.int .i64) (.pair (.int .i64) (.pair .bool (.int .u8))))
abbrev TCredo:Ty:=(.pair (.int .i64) (.pair (.int .i64) (.list true (.int .i64))))
abbrev Tl01Curk:Ty:=(.pair (.list false (.int .u8)) TQuotak)
abbrev TDiskk:Ty:=(.pair (.list false .str) (.list false TWritek))
abbrev TCredk:Ty:=(.pair (.int .i64) (.pair (.int .i64) (.list false (.int .i64))))
abbrev TProco:Ty:=(.pair TCredo (.list true TOpenk))
abbrev TProck:Ty:=(.pair TCredk (.list false TOpenk))
abbrev TInodeo:Ty:=(.pair (.int .i64) (.pair (.int .i64) (.pair (.int .i64) (.pair (.int .i64) (.pair (.int .i64) (.pair (.int .i64) (.pair (.int .i64) (.pair (.list true (.int .i64)) (.pair (.list true TOpenk) (.list true TOpenk))))))))))
abbrev TInodek:Ty:=(.pair (.int .i64) (.pair (.int .i64) (.pair (.int .i64) (.pair (.int .i64) (.pair (.int .i64) (.pair (.int .i64) (.pair (.int .i64) (.pair (.list false (.int .i64)) (.pair (.list false TOpenk) (.list false TOpenk))))))))))
abbrev TFSo:Ty:=(.pair (.int .i64) (.pair (.list true TQuotak) (.pair (.list true TInodeo) (.list true .str))))
abbrev TFSk:Ty:=(.pair (.int .i64) (.pair (.list false TQuotak) (.pair (.list false TInodek) (.list false .str))))
abbrev TSystemo:Ty:=(.pair TFSo (.list true TProco))
abbrev TSystemk:Ty:=(.pair TFSk (.list false TProck))
abbrev TMachineo:Ty:=(.pair TDisko (.pair (.int .i64) TSystemo))
abbrev TMachinek:Ty:=(.pair TDiskk (.pair (.int .i64) TSystemk))
abbrev s_laws_FnExactLoadFS:Sig:=⟨[.val TDiskk],[.bool],none⟩
abbrev s_laws_eqDisk:Sig:=⟨[.val TDiskk,.val TDiskk],[.bool],none⟩
abbrev s_laws_eqFS:Sig:=⟨[.val TFSk,.val TFSk],[.bool],none⟩
abbrev s_laws_markDisk:Sig:=⟨[.val TDisko,.val (.int .i64)],[(.int .i64)],none⟩
abbrev s_laws_szDisk:Sig:=⟨[.val TDiskk,.val (.int .i64)],[(.int .i64)],none⟩
abbrev s_spec_LoadFS:Sig:=⟨[.val TDiskk],[TFSo,.bool],none⟩
abbrev s_laws_toDisk:Sig:=⟨[.val TDiskk],[TDisko],none⟩
abbrev s_impl_LoadFS:Sig:=⟨[.val TDiskk],[TFSo,.bool],none⟩
abbrev s_laws_heldFS:Sig:=⟨[.val TFSk,.val (.int .i64)],[(.int .i64)],none⟩
abbrev s_laws_szStringS:Sig:=⟨[.val (.list false .str),.val (.int .i64)],[(.int .i64)],none⟩
abbrev s_spec_IsFS:Sig:=⟨[.val TFSk],[.bool],none⟩
abbrev s_spec_l18Pack:Sig:=⟨[.val TFSk],[(.list true .str)],none⟩
abbrev s_laws_toStringS:Sig:=⟨[.val (.list false .str)],[(.list true .str)],none⟩
abbrev s_impl_PackFS:Sig:=⟨[.val TFSk],[(.list true .str)],none⟩
abbrev s_laws_eqStringS:Sig:=⟨[.val (.list false .str),.val (.list false .str)],[.bool],none⟩
abbrev s_laws_eqWriteS:Sig:=⟨[.val (.list false TWritek),.val (.list false TWritek)],[.bool],none⟩
abbrev s_laws_eqQuotaS:Sig:=⟨[.val (.list false TQuotak),.val (.list false TQuotak)],[.bool],none⟩
abbrev s_laws_eqInodeS:Sig:=⟨[.val (.list false TInodek),.val (.list false TInodek)],[.bool],none⟩
abbrev s_laws_markQuotaS:Sig:=⟨[.val (.int .i64)],[(.int .i64)],some (false,(.list true TQuotak))⟩
abbrev s_laws_markInodeS:Sig:=⟨[.val (.int .i64)],[(.int .i64)],some (false,(.list true TInodeo))⟩
abbrev s_laws_markStringS:Sig:=⟨[.val (.int .i64)],[(.int .i64)],some (false,(.list true .str))⟩
abbrev s_laws_markWriteS:Sig:=⟨[.val (.int .i64)],[(.int .i64)],some (false,(.list true TWritek))⟩
abbrev s_laws_heldStringS:Sig:=⟨[.val (.list false .str),.val (.int .i64)],[(.int .i64)],none⟩
abbrev s_impl_IsDisk:Sig:=⟨[.val TDiskk],[.bool],none⟩
abbrev s_slices_Equal_int_int:Sig:=⟨[.val (.list false (.int .i64)),.val (.list false (.int .i64))],[.bool],none⟩
abbrev s_impl_SameInode:Sig:=⟨[.val TInodek,.val TInodek],[.bool],none⟩
abbrev s_laws_szWriteS:Sig:=⟨[.val (.list false TWritek),.val (.int .i64)],[(.int .i64)],none⟩
abbrev s_spec_IsDisk:Sig:=⟨[.val TDiskk],[.bool],none⟩
abbrev s_spec_UnpackFS:Sig:=⟨[.val (.list false .str)],[TFSo,.bool],none⟩
abbrev s_spec_l18Sectors:Sig:=⟨[.val TDiskk],[(.list true .str)],none⟩
abbrev s_laws_toWriteS:Sig:=⟨[.val (.list false TWritek)],[(.list true TWritek)],none⟩
abbrev s_impl_Disk_read:Sig:=⟨[.val (.ptr TDiskk),.val (.int .i64)],[.str],none⟩
abbrev s_impl_UnpackFS:Sig:=⟨[.val (.list false .str)],[TFSo,.bool],none⟩
abbrev s_laws_heldQuotaS:Sig:=⟨[.val (.list false TQuotak),.val (.int .i64)],[(.int .i64)],none⟩
abbrev s_laws_heldInodeS:Sig:=⟨[.val (.list false TInodek),.val (.int .i64)],[(.int .i64)],none⟩
abbrev s_spec_l01In:Sig:=⟨[.val (.int .i64),.val (.int .i64),.val (.int .i64)],[.bool],none⟩
abbrev s_spec_IsInode:Sig:=⟨[.val TInodek],[.bool],none⟩
abbrev s_spec_l08Used:Sig:=⟨[.val TFSk],[(.list true .bool),.bool],none⟩
abbrev s_spec_IsZeroes:Sig:=⟨[.val .str],[.bool],none⟩
abbrev s_spec_l18Super:Sig:=⟨[.val TFSk],[.str],none⟩
abbrev s_spec_PadTo:Sig:=⟨[.val .str,.val (.int .i64)],[.str],none⟩
abbrev s_spec_CutAll:Sig:=⟨[.val .str,.val (.int .i64)],[(.list true .str)],none⟩
abbrev s_spec_PackInode:Sig:=⟨[.val TInodek],[.str],none⟩
abbrev s_impl_IsFS:Sig:=⟨[.val TFSk],[.bool],none⟩
abbrev s_impl_FS_super:Sig:=⟨[.val (.ptr TFSk)],[.str],none⟩
abbrev s_slices_Repeat_string_string:Sig:=⟨[.val (.list false .str),.val (.int .i64)],[(.list true .str)],none⟩
abbrev s_impl_zeros:Sig:=⟨[.val (.int .i64)],[.str],none⟩
abbrev s_impl_CutAll:Sig:=⟨[.val .str,.val (.int .i64)],[(.list true .str)],none⟩
abbrev s_impl_PackInode:Sig:=⟨[.val TInodek],[.str],none⟩
abbrev s_laws_eqWrite:Sig:=⟨[.val TWritek,.val TWritek],[.bool],none⟩
abbrev s_laws_eqQuota:Sig:=⟨[.val TQuotak,.val TQuotak],[.bool],none⟩
abbrev s_laws_eqInode:Sig:=⟨[.val TInodek,.val TInodek],[.bool],none⟩
abbrev s_laws_markIntS:Sig:=⟨[.val (.int .i64)],[(.int .i64)],some (false,(.list true (.int .i64)))⟩
abbrev s_laws_markAclEntryS:Sig:=⟨[.val (.int .i64)],[(.int .i64)],some (false,(.list true TOpenk))⟩
abbrev s_laws_markText:Sig:=⟨[.val (.int .i64)],[.str],none⟩
abbrev s_slices_Clone_string_string:Sig:=⟨[.val (.list false .str)],[(.list true .str)],none⟩
abbrev s_impl_GetNumber:Sig:=⟨[.val .str,.val (.int .i64),.val (.int .i64)],[(.int .i64),.bool],none⟩
abbrev s_slices_Equal_impl_AclEntry_impl_AclEntry:Sig:=⟨[.val (.list false TOpenk),.val (.list false TOpenk)],[.bool],none⟩
abbrev s_laws_szWrite:Sig:=⟨[.val TWritek,.val (.int .i64)],[(.int .i64)],none⟩
abbrev s_spec_GetNumber:Sig:=⟨[.val .str,.val (.int .i64),.val (.int .i64)],[(.int .i64),.bool],none⟩
abbrev s_spec_UnpackInode:Sig:=⟨[.val .str],[TInodeo,.bool],none⟩
abbrev s_laws_toWrite:Sig:=⟨[.val TWritek],[TWritek],none⟩
abbrev s_impl_UnpackInode:Sig:=⟨[.val .str],[TInodeo,.bool],none⟩
abbrev s_impl_Join:Sig:=⟨[.val (.list false .str),.val .str],[.str],none⟩
abbrev s_laws_heldIntS:Sig:=⟨[.val (.list false (.int .i64)),.val (.int .i64)],[(.int .i64)],none⟩
abbrev s_laws_heldAclEntryS:Sig:=⟨[.val (.list false TOpenk),.val (.int .i64)],[(.int .i64)],none⟩
abbrev s_spec_SameInode:Sig:=⟨[.val TInodek,.val TInodek],[.bool],none⟩
abbrev s_spec_l06Mode:Sig:=⟨[.val (.int .i64)],[.bool],none⟩
abbrev s_spec_l06User:Sig:=⟨[.val (.int .i64)],[.bool],none⟩
abbrev s_spec_BlocksNeeded:Sig:=⟨[.val (.int .i64)],[(.int .i64)],none⟩
abbrev s_spec_l02Has:Sig:=⟨[.val (.list false (.int .i64)),.val (.int .i64)],[.bool],none⟩
abbrev s_spec_IsAcl:Sig:=⟨[.val (.list false TOpenk)],[.bool],none⟩
abbrev s_spec_BlockOwner:Sig:=⟨[.val (.int .i64)],[(.int .i64)],none⟩
abbrev s_spec_PutNumber:Sig:=⟨[.val (.int .i64),.val (.int .i64)],[.str],none⟩
abbrev s_spec_PackAcl:Sig:=⟨[.val (.list false TOpenk)],[.str],none⟩
abbrev s_impl_IsInode:Sig:=⟨[.val TInodek],[.bool],none⟩
abbrev s_impl_BlockOwner:Sig:=⟨[.val (.int .i64)],[(.int .i64)],none⟩
abbrev s_impl_IsZeroes:Sig:=⟨[.val .str],[.bool],none⟩
abbrev s_impl_PutNumber:Sig:=⟨[.val (.int .i64),.val (.int .i64)],[.str],none⟩
abbrev s_impl_PadTo:Sig:=⟨[.val .str,.val (.int .i64)],[.str],none⟩
abbrev s_impl_PackAcl:Sig:=⟨[.val (.list false TOpenk)],[.str],none⟩
abbrev s_laws_eqIntS:Sig:=⟨[.val (.list false (.int .i64)),.val (.list false (.int .i64))],[.bool],none⟩
abbrev s_laws_eqAclEntryS:Sig:=⟨[.val (.list false TOpenk),.val (.list false TOpenk)],[.bool],none⟩
abbrev s_slices_Contains_int_int:Sig:=⟨[.val (.list false (.int .i64)),.val (.int .i64)],[.bool],none⟩
abbrev s_impl_isUser:Sig:=⟨[.val (.int .i64)],[.bool],none⟩
abbrev s_spec_UnpackAcl:Sig:=⟨[.val .str],[(.list true TOpenk),.bool],none⟩
abbrev s_impl_BlocksNeeded:Sig:=⟨[.val (.int .i64)],[(.int .i64)],none⟩
abbrev s_impl_UnpackAcl:Sig:=⟨[.val .str],[(.list true TOpenk),.bool],none⟩
abbrev s_strings_Join:Sig:=⟨[.val (.list false .str),.val .str],[.str],none⟩
abbrev s_spec_l02Same:Sig:=⟨[.val (.list false (.int .i64)),.val (.list false (.int .i64))],[.bool],none⟩
abbrev s_spec_l05Same:Sig:=⟨[.val (.list false TOpenk),.val (.list false TOpenk)],[.bool],none⟩
abbrev s_spec_l05Entry:Sig:=⟨[.val TOpenk],[.bool],none⟩
abbrev s_impl_isMode:Sig:=⟨[.val (.int .i64)],[.bool],none⟩
abbrev s_impl_IsAcl:Sig:=⟨[.val (.list false TOpenk)],[.bool],none⟩
abbrev s_strings_Repeat:Sig:=⟨[.val .str,.val (.int .i64)],[.str],none⟩
abbrev s_laws_eqAclEntry:Sig:=⟨[.val TOpenk,.val TOpenk],[.bool],none⟩
abbrev s_slices_Index_int_int:Sig:=⟨[.val (.list false (.int .i64)),.val (.int .i64)],[(.int .i64)],none⟩
abbrev s_cmp_Or_int:Sig:=⟨[.val (.list false (.int .i64))],[(.int .i64)],none⟩
abbrev s_cmp_Compare_int:Sig:=⟨[.val (.int .i64),.val (.int .i64)],[(.int .i64)],none⟩
abbrev s_cmp_isNaN_int:Sig:=⟨[.val (.int .i64)],[.bool],none⟩
noncomputable def exts:List ExtE:=[⟨90,s_slices_Repeat_string_string,ext_slices_Repeat_string_string⟩,⟨115,s_slices_Clone_string_string,ext_slices_Clone_string_string⟩,⟨174,s_strings_Join,ext_strings_Join⟩,⟨181,s_strings_Repeat,ext_strings_Repeat⟩]
noncomputable def tab:Tab:={
 ty:=[(2,(.int .i64)),(3,(.int .i64)),(4,.bool),(5,(.int .u8)),(9,.str),(24,(.list false .str)),(28,(.list false TWritek)),(30,TDiskk),(32,(.list false TQuotak)),(33,(.list false TInodek)),(35,TFSk),(42,(.list false (.int .u8))),(51,(.list false (.int .i64))),(60,(.list false TWritek)),(62,TDiskk),(110,TQuotak),(112,(.list false TOpenk)),(114,TInodek),(127,(.list false .bool)),(142,TWritek),(177,TOpenk),(179,TWritek),(191,(.arr 56 .bool)),(192,(.int .u64))],
 nf:=[(30,2),(35,4),(62,2),(110,2),(114,10),(142,2),(177,3),(179,2)],
 el:=[(24,9,16),(28,142,24),(32,110,16),(33,114,128),(42,5,1),(51,3,8),(112,177,24),(127,4,1)],
 fnT:=[1],
 eqs:=[110,142,177,179],
 sig:=[(5,s_laws_FnExactLoadFS),(10,s_laws_eqDisk),(11,s_laws_eqFS),(13,s_laws_markDisk),(22,s_laws_szDisk),(23,s_spec_LoadFS),(24,s_laws_toDisk),(25,s_impl_LoadFS),(26,s_laws_heldFS),(29,s_laws_szStringS),(30,s_spec_IsFS),(31,s_spec_l18Pack),(34,s_laws_toStringS),(35,s_impl_PackFS),(36,s_laws_eqStringS),(37,s_laws_eqWriteS),(38,s_laws_eqQuotaS),(39,s_laws_eqInodeS),(40,s_laws_markQuotaS),(41,s_laws_markInodeS),(42,s_laws_markStringS),(43,s_laws_markWriteS),(44,s_laws_heldStringS),(58,s_impl_IsDisk),(62,s_slices_Equal_int_int),(66,s_impl_SameInode),(68,s_laws_szWriteS),(69,s_spec_IsDisk),(70,s_spec_UnpackFS),(71,s_spec_l18Sectors),(72,s_laws_toWriteS),(73,s_impl_Disk_read),(74,s_impl_UnpackFS),(75,s_laws_heldQuotaS),(76,s_laws_heldInodeS),(78,s_spec_l01In),(79,s_spec_IsInode),(80,s_spec_l08Used),(81,s_spec_IsZeroes),(82,s_spec_l18Super),(83,s_spec_PadTo),(84,s_spec_CutAll),(85,s_spec_PackInode),(88,s_impl_IsFS),(89,s_impl_FS_super),(90,s_slices_Repeat_string_string),(91,s_impl_zeros),(92,s_impl_CutAll),(93,s_impl_PackInode),(94,s_laws_eqWrite),(95,s_laws_eqQuota),(96,s_laws_eqInode),(97,s_laws_markIntS),(98,s_laws_markAclEntryS),(99,s_laws_markText),(115,s_slices_Clone_string_string),(127,s_impl_GetNumber),(129,s_slices_Equal_impl_AclEntry_impl_AclEntry),(130,s_laws_szWrite),(131,s_spec_GetNumber),(132,s_spec_UnpackInode),(133,s_laws_toWrite),(134,s_impl_UnpackInode),(135,s_impl_Join),(136,s_laws_heldIntS),(137,s_laws_heldAclEntryS),(140,s_spec_SameInode),(141,s_spec_l06Mode),(142,s_spec_l06User),(143,s_spec_BlocksNeeded),(144,s_spec_l02Has),(145,s_spec_IsAcl),(146,s_spec_BlockOwner),(147,s_spec_PutNumber),(148,s_spec_PackAcl),(151,s_impl_IsInode),(152,s_impl_BlockOwner),(153,s_impl_IsZeroes),(154,s_impl_PutNumber),(155,s_impl_PadTo),(157,s_impl_PackAcl),(158,s_laws_eqIntS),(159,s_laws_eqAclEntryS),(164,s_slices_Contains_int_int),(165,s_impl_isUser),(170,s_spec_UnpackAcl),(172,s_impl_BlocksNeeded),(173,s_impl_UnpackAcl),(174,s_strings_Join),(175,s_spec_l02Same),(176,s_spec_l05Same),(177,s_spec_l05Entry),(179,s_impl_isMode),(180,s_impl_IsAcl),(181,s_strings_Repeat),(184,s_laws_eqAclEntry),(187,s_slices_Index_int_int),(191,s_cmp_Or_int),(192,s_cmp_Compare_int),(197,s_cmp_isNaN_int)],
 body:=[(5,Tryz.f5),(10,Tryz.f10),(11,Tryz.f11),(12,Tryz.f12),(13,Tryz.f13),(22,Tryz.f22),(23,Tryz.f23),(24,Tryz.f24),(25,Tryz.f25),(26,Tryz.f26),(29,Tryz.f29),(30,Tryz.f30),(31,Tryz.f31),(34,Tryz.f34),(35,Tryz.f35),(36,Tryz.f36),(37,Tryz.f37),(38,Tryz.f38),(39,Tryz.f39),(40,Tryz.f40),(41,Tryz.f41),(42,Tryz.f42),(43,Tryz.f43),(44,Tryz.f44),(58,Tryz.f58),(62,Tryz.f62),(66,Tryz.f66),(68,Tryz.f68),(69,Tryz.f69),(70,Tryz.f70),(71,Tryz.f71),(72,Tryz.f72),(73,Tryz.f73),(74,Tryz.f74),(75,Tryz.f75),(76,Tryz.f76),(78,Tryz.f78),(79,Tryz.f79),(80,Tryz.f80),(81,Tryz.f81),(82,Tryz.f82),(83,Tryz.f83),(84,Tryz.f84),(85,Tryz.f85),(88,Tryz.f88),(89,Tryz.f89),(91,Tryz.f91),(92,Tryz.f92),(93,Tryz.f93),(94,Tryz.f94),(95,Tryz.f95),(96,Tryz.f96),(97,Tryz.f97),(98,Tryz.f98),(99,Tryz.f99),(127,Tryz.f127),(129,Tryz.f129),(130,Tryz.f130),(131,Tryz.f131),(132,Tryz.f132),(133,Tryz.f133),(134,Tryz.f134),(135,Tryz.f135),(136,Tryz.f136),(137,Tryz.f137),(140,Tryz.f140),(141,Tryz.f141),(142,Tryz.f142),(143,Tryz.f143),(144,Tryz.f144),(145,Tryz.f145),(146,Tryz.f146),(147,Tryz.f147),(148,Tryz.f148),(151,Tryz.f151),(152,Tryz.f152),(153,Tryz.f153),(154,Tryz.f154),(155,Tryz.f155),(157,Tryz.f157),(158,Tryz.f158),(159,Tryz.f159),(164,Tryz.f164),(165,Tryz.f165),(170,Tryz.f170),(171,Tryz.f171),(172,Tryz.f172),(173,Tryz.f173),(175,Tryz.f175),(176,Tryz.f176),(177,Tryz.f177),(179,Tryz.f179),(180,Tryz.f180),(184,Tryz.f184),(187,Tryz.f187),(191,Tryz.f191),(192,Tryz.f192),(197,Tryz.f197)]}
noncomputable def E1:Env:=tab.env (extOf exts)
noncomputable def H1:Nat→Hints:=fun f=>(Eng.look [(25,⟨fun r=>(Eng.look [(5,[(1,none),(2,none),(4,none),(19,none),(20,none)])] r).getD [],fun r=>Eng.look [] r⟩),
 (29,⟨fun r=>(Eng.look [(5,[(0,none),(1,none),(5,none)])] r).getD [],fun r=>Eng.look [] r⟩),
 (30,⟨fun r=>(Eng.look [(4,[(1,none),(37,none),(38,none),(39,none)]),(10,[(1,none),(55,none),(56,none),(57,none)]),(21,[(1,none),(7,none),(79,none),(80,none),(81,none)]),(27,[(1,none),(103,none),(104,none),(105,none)])] r).getD [],fun r=>Eng.look [] r⟩),
 (31,⟨fun r=>(Eng.look [(2,[(1,none),(3,none)]),(5,[(1,none),(3,none),(17,none),(18,none),(19,none)])] r).getD [],fun r=>Eng.look [] r⟩),
 (34,⟨fun r=>(Eng.look [(3,[(0,none),(3,none),(4,none)])] r).getD [],fun r=>Eng.look [] r⟩),
 (35,⟨fun r=>(Eng.look [(5,[(1,none),(3,none),(16,none),(17,none),(18,none)])] r).getD [],fun r=>Eng.look [] r⟩),
 (36,⟨fun r=>(Eng.look [(4,[(0,none),(1,none),(5,none)])] r).getD [],fun r=>Eng.look [] r⟩),
 (37,⟨fun r=>(Eng.look [(4,[(0,none),(1,none),(5,none)])] r).getD [],fun r=>Eng.look [] r⟩),
 (38,⟨fun r=>(Eng.look [(4,[(0,none),(1,none),(5,none)])] r).getD [],fun r=>Eng.look [] r⟩),
 (39,⟨fun r=>(Eng.look [(4,[(0,none),(1,none),(5,none)])] r).getD [],fun r=>Eng.look [] r⟩),
 (40,⟨fun r=>(Eng.look [(2,[(0,none),(1,none),(5,none)])] r).getD [],fun r=>Eng.look [] r⟩),
 (41,⟨fun r=>(Eng.look [(2,[(0,none),(1,none),(5,none)])] r).getD [],fun r=>Eng.look [] r⟩),
 (42,⟨fun r=>(Eng.look [(2,[(0,none),(1,none),(5,none)])] r).getD [],fun r=>Eng.look [] r⟩),
 (43,⟨fun r=>(Eng.look [(2,[(0,none),(1,none),(5,none)])] r).getD [],fun r=>Eng.look [] r⟩),
 (44,⟨fun r=>(Eng.look [(2,[(0,none),(1,none),(5,none)])] r).getD [],fun r=>Eng.look [] r⟩),
 (58,⟨fun r=>(Eng.look [(4,[(1,none),(18,none),(19,none),(20,none)]),(10,[(1,none),(29,none),(30,none),(31,none)])] r).getD [],fun r=>Eng.look [] r⟩),
 (62,⟨fun r=>(Eng.look [(4,[(0,none),(1,none),(12,none),(13,none)])] r).getD [],fun r=>Eng.look [] r⟩),
 (68,⟨fun r=>(Eng.look [(5,[(0,none),(1,none),(5,none)])] r).getD [],fun r=>Eng.look [] r⟩),
 (69,⟨fun r=>(Eng.look [(2,[(1,none),(8,none),(9,none),(10,none)]),(8,[(1,none),(19,none),(20,none),(21,none)])] r).getD [],fun r=>Eng.look [] r⟩),
 (70,⟨fun r=>(Eng.look [(6,[(0,none),(2,none),(4,none),(5,none)]),(10,[(0,none),(2,none),(4,none),(6,none)]),(20,[(0,none),(2,none),(4,none),(107,none),(108,none),(109,none)])] r).getD [],fun r=>Eng.look [] r⟩),
 (71,⟨fun r=>(Eng.look [(3,[(3,none),(11,none),(12,none),(13,none)])] r).getD [],fun r=>Eng.look [] r⟩),
 (72,⟨fun r=>(Eng.look [(3,[(0,none),(3,none),(4,none)])] r).getD [],fun r=>Eng.look [] r⟩),
 (73,⟨fun r=>(Eng.look [(2,[(0,none),(1,none),(5,none)])] r).getD [],fun r=>Eng.look [] r⟩),
 (74,⟨fun r=>(Eng.look [(6,[(0,none),(2,none),(5,none),(6,none),(30,none)]),(14,[(0,none),(2,none),(5,none),(6,none),(69,none)]),(23,[(0,none),(2,none),(6,none),(110,none),(111,none),(112,none)])] r).getD [],fun r=>Eng.look [] r⟩),
 (75,⟨fun r=>(Eng.look [(2,[(0,none),(1,none),(5,none)])] r).getD [],fun r=>Eng.look [] r⟩),
 (76,⟨fun r=>(Eng.look [(2,[(0,none),(1,none),(5,none)])] r).getD [],fun r=>Eng.look [] r⟩),
 (79,⟨fun r=>(Eng.look [(6,[(1,none),(65,none),(66,none),(67,none)])] r).getD [],fun r=>Eng.look [(5,[(1,none)]),(13,[(1,none)])] r⟩),
 (80,⟨fun r=>(Eng.look [(3,[(4,none),(11,none),(12,none),(13,none)]),(6,[(4,none),(6,none),(11,none),(12,none),(13,none),(18,none),(19,none),(20,none)])] r).getD [],fun r=>Eng.look [] r⟩),
 (81,⟨fun r=>(Eng.look [(2,[(0,none),(3,none)])] r).getD [],fun r=>Eng.look [] r⟩),
 (82,⟨fun r=>(Eng.look [(3,[(3,none),(11,none),(12,none),(13,none)])] r).getD [],fun r=>Eng.look [] r⟩),
 (83,⟨fun r=>(Eng.look [(4,[(1,none),(5,none)])] r).getD [],fun r=>Eng.look [] r⟩),
 (84,⟨fun r=>(Eng.look [(4,[(0,none),(1,none),(5,none)])] r).getD [],fun r=>Eng.look [] r⟩),
 (85,⟨fun r=>(Eng.look [(5,[(1,none),(3,none),(4,none)])] r).getD [],fun r=>Eng.look [] r⟩),
 (88,⟨fun r=>(Eng.look [(4,[(1,none),(42,none),(43,none),(44,none)]),(10,[(1,none),(68,none),(69,none),(70,none)]),(17,[(1,none),(7,none),(79,none),(80,none),(81,none)]),(22,[(1,none),(7,none),(9,none),(79,none),(80,none),(81,none),(89,none),(90,none),(91,none)]),(34,[(1,none),(7,none),(131,none),(132,none),(133,none)])] r).getD [],fun r=>Eng.look [] r⟩),
 (89,⟨fun r=>(Eng.look [(3,[(3,none),(15,none),(16,none),(17,none)])] r).getD [],fun r=>Eng.look [] r⟩),
 (92,⟨fun r=>(Eng.look [(4,[(0,none),(1,none),(5,none)])] r).getD [],fun r=>Eng.look [] r⟩),
 (93,⟨fun r=>(Eng.look [(5,[(1,none),(3,none),(36,none)])] r).getD [],fun r=>Eng.look [] r⟩),
 (97,⟨fun r=>(Eng.look [(2,[(0,none),(1,none),(5,none)])] r).getD [],fun r=>Eng.look [] r⟩),
 (98,⟨fun r=>(Eng.look [(2,[(0,none),(1,none),(5,none)])] r).getD [],fun r=>Eng.look [] r⟩),
 (99,⟨fun r=>(Eng.look [(4,[(0,none),(3,none)])] r).getD [],fun r=>Eng.look [] r⟩),
 (127,⟨fun r=>(Eng.look [(5,[(0,none),(1,none),(8,none),(28,none),(29,none)])] r).getD [],fun r=>Eng.look [] r⟩),
 (129,⟨fun r=>(Eng.look [(4,[(0,none),(1,none),(12,none),(13,none)])] r).getD [],fun r=>Eng.look [] r⟩),
 (131,⟨fun r=>(Eng.look [(5,[(0,none),(1,none),(2,none),(8,none),(9,none)])] r).getD [],fun r=>Eng.look [] r⟩),
 (132,⟨fun r=>(Eng.look [(12,[(0,none),(2,none),(4,none),(5,none)])] r).getD [],fun r=>Eng.look [] r⟩),
 (134,⟨fun r=>(Eng.look [(7,[(1,none),(2,none),(4,none),(5,none),(6,none),(33,none)])] r).getD [],fun r=>Eng.look [] r⟩),
 (136,⟨fun r=>(Eng.look [(2,[(0,none),(1,none),(5,none)])] r).getD [],fun r=>Eng.look [] r⟩),
 (137,⟨fun r=>(Eng.look [(2,[(0,none),(1,none),(5,none)])] r).getD [],fun r=>Eng.look [] r⟩),
 (144,⟨fun r=>(Eng.look [(2,[(1,none),(7,none),(8,none),(9,none)])] r).getD [],fun r=>Eng.look [] r⟩),
 (145,⟨fun r=>(Eng.look [(2,[(0,none),(6,none),(7,none),(8,none)])] r).getD [],fun r=>Eng.look [] r⟩),
 (147,⟨fun r=>(Eng.look [(5,[(0,none),(5,none),(6,none)])] r).getD [],fun r=>Eng.look [] r⟩),
 (148,⟨fun r=>(Eng.look [(5,[(3,none),(12,none),(13,none),(14,none)])] r).getD [],fun r=>Eng.look [] r⟩),
 (151,⟨fun r=>(Eng.look [(10,[(1,none),(83,none),(84,none),(85,none)])] r).getD [],fun r=>Eng.look [(7,[(1,none)])] r⟩),
 (153,⟨fun r=>(Eng.look [(2,[(0,none),(5,none),(6,none)])] r).getD [],fun r=>Eng.look [] r⟩),
 (154,⟨fun r=>(Eng.look [(5,[(0,none),(5,none),(6,none)])] r).getD [],fun r=>Eng.look [] r⟩),
 (157,⟨fun r=>(Eng.look [(5,[(3,none),(12,none),(13,none),(14,none)])] r).getD [],fun r=>Eng.look [] r⟩),
 (158,⟨fun r=>(Eng.look [(4,[(0,none),(1,none),(5,none)])] r).getD [],fun r=>Eng.look [] r⟩),
 (159,⟨fun r=>(Eng.look [(4,[(0,none),(1,none),(5,none)])] r).getD [],fun r=>Eng.look [] r⟩),
 (170,⟨fun r=>(Eng.look [(5,[(0,none),(4,none),(5,none)])] r).getD [],fun r=>Eng.look [] r⟩),
 (173,⟨fun r=>(Eng.look [(5,[(0,none),(4,none),(17,none),(18,none)])] r).getD [],fun r=>Eng.look [] r⟩),
 (175,⟨fun r=>(Eng.look [(4,[(1,none),(12,none),(13,none),(14,none)])] r).getD [],fun r=>Eng.look [] r⟩),
 (176,⟨fun r=>(Eng.look [(4,[(1,none),(12,none),(13,none),(14,none)])] r).getD [],fun r=>Eng.look [] r⟩),
 (180,⟨fun r=>(Eng.look [(4,[(0,none),(8,none),(9,none),(10,none)])] r).getD [],fun r=>Eng.look [(17,[(0,none),(3,none),(4,none),(8,none),(9,none),(10,none)])] r⟩),
 (187,⟨fun r=>(Eng.look [(2,[(0,none),(1,none),(7,none),(8,none)])] r).getD [],fun r=>Eng.look [] r⟩),
 (191,⟨fun r=>(Eng.look [(3,[(3,none),(6,none),(7,none),(8,none)])] r).getD [],fun r=>Eng.look [] r⟩)] f).getD ⟨fun _=>[],fun _=>none⟩
noncomputable def c_laws_FnExactLoadFS(k:Nat)(x:DDisk):Option Bool:=runF E1 H1 k 5 s_laws_FnExactLoadFS x
noncomputable def c_laws_eqDisk(k:Nat)(x:(DDisk×DDisk)):Option Bool:=runF E1 H1 k 10 s_laws_eqDisk x
noncomputable def c_laws_eqFS(k:Nat)(x:(DFS×DFS)):Option Bool:=runF E1 H1 k 11 s_laws_eqFS x
noncomputable def c_laws_markDisk(k:Nat)(x:(DDisk×Int)):Option Int:=runF E1 H1 k 13 s_laws_markDisk x
noncomputable def c_laws_szDisk(k:Nat)(x:(DDisk×Int)):Option Int:=runF E1 H1 k 22 s_laws_szDisk x
noncomputable def c_spec_LoadFS(k:Nat)(x:DDisk):Option (DFS×Bool):=runF E1 H1 k 23 s_spec_LoadFS x
noncomputable def c_laws_toDisk(k:Nat)(x:DDisk):Option DDisk:=runF E1 H1 k 24 s_laws_toDisk x
noncomputable def c_impl_LoadFS(k:Nat)(x:DDisk):Option (DFS×Bool):=runF E1 H1 k 25 s_impl_LoadFS x
noncomputable def c_laws_heldFS(k:Nat)(x:(DFS×Int)):Option Int:=runF E1 H1 k 26 s_laws_heldFS x
noncomputable def c_laws_szStringS(k:Nat)(x:((List ByteArray)×Int)):Option Int:=runF E1 H1 k 29 s_laws_szStringS x
noncomputable def c_spec_IsFS(k:Nat)(x:DFS):Option Bool:=runF E1 H1 k 30 s_spec_IsFS x
noncomputable def c_spec_l18Pack(k:Nat)(x:DFS):Option (List ByteArray):=runF E1 H1 k 31 s_spec_l18Pack x
noncomputable def c_laws_toStringS(k:Nat)(x:(List ByteArray)):Option (List ByteArray):=runF E1 H1 k 34 s_laws_toStringS x
noncomputable def c_impl_PackFS(k:Nat)(x:DFS):Option (List ByteArray):=runF E1 H1 k 35 s_impl_PackFS x
noncomputable def c_laws_eqStringS(k:Nat)(x:((List ByteArray)×(List ByteArray))):Option Bool:=runF E1 H1 k 36 s_laws_eqStringS x
noncomputable def c_laws_eqWriteS(k:Nat)(x:((List DWrite)×(List DWrite))):Option Bool:=runF E1 H1 k 37 s_laws_eqWriteS x
noncomputable def c_laws_eqQuotaS(k:Nat)(x:((List DQuota)×(List DQuota))):Option Bool:=runF E1 H1 k 38 s_laws_eqQuotaS x
noncomputable def c_laws_eqInodeS(k:Nat)(x:((List DInode)×(List DInode))):Option Bool:=runF E1 H1 k 39 s_laws_eqInodeS x
noncomputable def c_laws_markQuotaS(k:Nat)(x:((List DQuota)×Int)):Option (Int×(List DQuota)):=runF E1 H1 k 40 s_laws_markQuotaS x
noncomputable def c_laws_markInodeS(k:Nat)(x:((List DInode)×Int)):Option (Int×(List DInode)):=runF E1 H1 k 41 s_laws_markInodeS x
noncomputable def c_laws_markStringS(k:Nat)(x:((List ByteArray)×Int)):Option (Int×(List ByteArray)):=runF E1 H1 k 42 s_laws_markStringS x
noncomputable def c_laws_markWriteS(k:Nat)(x:((List DWrite)×Int)):Option (Int×(List DWrite)):=runF E1 H1 k 43 s_laws_markWriteS x
noncomputable def c_laws_heldStringS(k:Nat)(x:((List ByteArray)×Int)):Option Int:=runF E1 H1 k 44 s_laws_heldStringS x
noncomputable def c_impl_IsDisk(k:Nat)(x:DDisk):Option Bool:=runF E1 H1 k 58 s_impl_IsDisk x
noncomputable def c_slices_Equal_int_int(k:Nat)(x:((List Int)×(List Int))):Option Bool:=runF E1 H1 k 62 s_slices_Equal_int_int x
noncomputable def c_impl_SameInode(k:Nat)(x:(DInode×DInode)):Option Bool:=runF E1 H1 k 66 s_impl_SameInode x
noncomputable def c_laws_szWriteS(k:Nat)(x:((List DWrite)×Int)):Option Int:=runF E1 H1 k 68 s_laws_szWriteS x
noncomputable def c_spec_IsDisk(k:Nat)(x:DDisk):Option Bool:=runF E1 H1 k 69 s_spec_IsDisk x
noncomputable def c_spec_UnpackFS(k:Nat)(x:(List ByteArray)):Option (DFS×Bool):=runF E1 H1 k 70 s_spec_UnpackFS x
noncomputable def c_spec_l18Sectors(k:Nat)(x:DDisk):Option (List ByteArray):=runF E1 H1 k 71 s_spec_l18Sectors x
noncomputable def c_laws_toWriteS(k:Nat)(x:(List DWrite)):Option (List DWrite):=runF E1 H1 k 72 s_laws_toWriteS x
noncomputable def c_impl_Disk_read(k:Nat)(x:((Option DDisk)×Int)):Option ByteArray:=runF E1 H1 k 73 s_impl_Disk_read x
noncomputable def c_impl_UnpackFS(k:Nat)(x:(List ByteArray)):Option (DFS×Bool):=runF E1 H1 k 74 s_impl_UnpackFS x
noncomputable def c_laws_heldQuotaS(k:Nat)(x:((List DQuota)×Int)):Option Int:=runF E1 H1 k 75 s_laws_heldQuotaS x
noncomputable def c_laws_heldInodeS(k:Nat)(x:((List DInode)×Int)):Option Int:=runF E1 H1 k 76 s_laws_heldInodeS x
noncomputable def c_spec_l01In(k:Nat)(x:DOpen):Option Bool:=runF E1 H1 k 78 s_spec_l01In x
noncomputable def c_spec_IsInode(k:Nat)(x:DInode):Option Bool:=runF E1 H1 k 79 s_spec_IsInode x
noncomputable def c_spec_l08Used(k:Nat)(x:DFS):Option ((List Bool)×Bool):=runF E1 H1 k 80 s_spec_l08Used x
noncomputable def c_spec_IsZeroes(k:Nat)(x:ByteArray):Option Bool:=runF E1 H1 k 81 s_spec_IsZeroes x
noncomputable def c_spec_l18Super(k:Nat)(x:DFS):Option ByteArray:=runF E1 H1 k 82 s_spec_l18Super x
noncomputable def c_spec_PadTo(k:Nat)(x:DerrorAddressString):Option ByteArray:=runF E1 H1 k 83 s_spec_PadTo x
noncomputable def c_spec_CutAll(k:Nat)(x:DerrorAddressString):Option (List ByteArray):=runF E1 H1 k 84 s_spec_CutAll x
noncomputable def c_spec_PackInode(k:Nat)(x:DInode):Option ByteArray:=runF E1 H1 k 85 s_spec_PackInode x
noncomputable def c_impl_IsFS(k:Nat)(x:DFS):Option Bool:=runF E1 H1 k 88 s_impl_IsFS x
noncomputable def c_impl_FS_super(k:Nat)(x:(Option DFS)):Option ByteArray:=runF E1 H1 k 89 s_impl_FS_super x
noncomputable def c_slices_Repeat_string_string(k:Nat)(x:((List ByteArray)×Int)):Option (List ByteArray):=runF E1 H1 k 90 s_slices_Repeat_string_string x
noncomputable def c_impl_zeros(k:Nat)(x:Int):Option ByteArray:=runF E1 H1 k 91 s_impl_zeros x
noncomputable def c_impl_CutAll(k:Nat)(x:DerrorAddressString):Option (List ByteArray):=runF E1 H1 k 92 s_impl_CutAll x
noncomputable def c_impl_PackInode(k:Nat)(x:DInode):Option ByteArray:=runF E1 H1 k 93 s_impl_PackInode x
noncomputable def c_laws_eqWrite(k:Nat)(x:(DWrite×DWrite)):Option Bool:=runF E1 H1 k 94 s_laws_eqWrite x
noncomputable def c_laws_eqQuota(k:Nat)(x:(DQuota×DQuota)):Option Bool:=runF E1 H1 k 95 s_laws_eqQuota x
noncomputable def c_laws_eqInode(k:Nat)(x:(DInode×DInode)):Option Bool:=runF E1 H1 k 96 s_laws_eqInode x
noncomputable def c_laws_markIntS(k:Nat)(x:((List Int)×Int)):Option (Int×(List Int)):=runF E1 H1 k 97 s_laws_markIntS x
noncomputable def c_laws_markAclEntryS(k:Nat)(x:((List DOpen)×Int)):Option (Int×(List DOpen)):=runF E1 H1 k 98 s_laws_markAclEntryS x
noncomputable def c_laws_markText(k:Nat)(x:Int):Option ByteArray:=runF E1 H1 k 99 s_laws_markText x
noncomputable def c_slices_Clone_string_string(k:Nat)(x:(List ByteArray)):Option (List ByteArray):=runF E1 H1 k 115 s_slices_Clone_string_string x
noncomputable def c_impl_GetNumber(k:Nat)(x:(ByteArray×DQuota)):Option (Int×Bool):=runF E1 H1 k 127 s_impl_GetNumber x
noncomputable def c_slices_Equal_impl_AclEntry_impl_AclEntry(k:Nat)(x:((List DOpen)×(List DOpen))):Option Bool:=runF E1 H1 k 129 s_slices_Equal_impl_AclEntry_impl_AclEntry x
noncomputable def c_laws_szWrite(k:Nat)(x:(DWrite×Int)):Option Int:=runF E1 H1 k 130 s_laws_szWrite x
noncomputable def c_spec_GetNumber(k:Nat)(x:(ByteArray×DQuota)):Option (Int×Bool):=runF E1 H1 k 131 s_spec_GetNumber x
noncomputable def c_spec_UnpackInode(k:Nat)(x:ByteArray):Option (DInode×Bool):=runF E1 H1 k 132 s_spec_UnpackInode x
noncomputable def c_laws_toWrite(k:Nat)(x:DWrite):Option DWrite:=runF E1 H1 k 133 s_laws_toWrite x
noncomputable def c_impl_UnpackInode(k:Nat)(x:ByteArray):Option (DInode×Bool):=runF E1 H1 k 134 s_impl_UnpackInode x
noncomputable def c_impl_Join(k:Nat)(x:((List ByteArray)×ByteArray)):Option ByteArray:=runF E1 H1 k 135 s_impl_Join x
noncomputable def c_laws_heldIntS(k:Nat)(x:((List Int)×Int)):Option Int:=runF E1 H1 k 136 s_laws_heldIntS x
noncomputable def c_laws_heldAclEntryS(k:Nat)(x:((List DOpen)×Int)):Option Int:=runF E1 H1 k 137 s_laws_heldAclEntryS x
noncomputable def c_spec_SameInode(k:Nat)(x:(DInode×DInode)):Option Bool:=runF E1 H1 k 140 s_spec_SameInode x
noncomputable def c_spec_l06Mode(k:Nat)(x:Int):Option Bool:=runF E1 H1 k 141 s_spec_l06Mode x
noncomputable def c_spec_l06User(k:Nat)(x:Int):Option Bool:=runF E1 H1 k 142 s_spec_l06User x
noncomputable def c_spec_BlocksNeeded(k:Nat)(x:Int):Option Int:=runF E1 H1 k 143 s_spec_BlocksNeeded x
noncomputable def c_spec_l02Has(k:Nat)(x:((List Int)×Int)):Option Bool:=runF E1 H1 k 144 s_spec_l02Has x
noncomputable def c_spec_IsAcl(k:Nat)(x:(List DOpen)):Option Bool:=runF E1 H1 k 145 s_spec_IsAcl x
noncomputable def c_spec_BlockOwner(k:Nat)(x:Int):Option Int:=runF E1 H1 k 146 s_spec_BlockOwner x
noncomputable def c_spec_PutNumber(k:Nat)(x:DQuota):Option ByteArray:=runF E1 H1 k 147 s_spec_PutNumber x
noncomputable def c_spec_PackAcl(k:Nat)(x:(List DOpen)):Option ByteArray:=runF E1 H1 k 148 s_spec_PackAcl x
noncomputable def c_impl_IsInode(k:Nat)(x:DInode):Option Bool:=runF E1 H1 k 151 s_impl_IsInode x
noncomputable def c_impl_BlockOwner(k:Nat)(x:Int):Option Int:=runF E1 H1 k 152 s_impl_BlockOwner x
noncomputable def c_impl_IsZeroes(k:Nat)(x:ByteArray):Option Bool:=runF E1 H1 k 153 s_impl_IsZeroes x
noncomputable def c_impl_PutNumber(k:Nat)(x:DQuota):Option ByteArray:=runF E1 H1 k 154 s_impl_PutNumber x
noncomputable def c_impl_PadTo(k:Nat)(x:DerrorAddressString):Option ByteArray:=runF E1 H1 k 155 s_impl_PadTo x
noncomputable def c_impl_PackAcl(k:Nat)(x:(List DOpen)):Option ByteArray:=runF E1 H1 k 157 s_impl_PackAcl x
noncomputable def c_laws_eqIntS(k:Nat)(x:((List Int)×(List Int))):Option Bool:=runF E1 H1 k 158 s_laws_eqIntS x
noncomputable def c_laws_eqAclEntryS(k:Nat)(x:((List DOpen)×(List DOpen))):Option Bool:=runF E1 H1 k 159 s_laws_eqAclEntryS x
noncomputable def c_slices_Contains_int_int(k:Nat)(x:((List Int)×Int)):Option Bool:=runF E1 H1 k 164 s_slices_Contains_int_int x
noncomputable def c_impl_isUser(k:Nat)(x:Int):Option Bool:=runF E1 H1 k 165 s_impl_isUser x
noncomputable def c_spec_UnpackAcl(k:Nat)(x:ByteArray):Option ((List DOpen)×Bool):=runF E1 H1 k 170 s_spec_UnpackAcl x
noncomputable def c_impl_BlocksNeeded(k:Nat)(x:Int):Option Int:=runF E1 H1 k 172 s_impl_BlocksNeeded x
noncomputable def c_impl_UnpackAcl(k:Nat)(x:ByteArray):Option ((List DOpen)×Bool):=runF E1 H1 k 173 s_impl_UnpackAcl x
noncomputable def c_strings_Join(k:Nat)(x:((List ByteArray)×ByteArray)):Option ByteArray:=runF E1 H1 k 174 s_strings_Join x
noncomputable def c_spec_l02Same(k:Nat)(x:((List Int)×(List Int))):Option Bool:=runF E1 H1 k 175 s_spec_l02Same x
noncomputable def c_spec_l05Same(k:Nat)(x:((List DOpen)×(List DOpen))):Option Bool:=runF E1 H1 k 176 s_spec_l05Same x
noncomputable def c_spec_l05Entry(k:Nat)(x:DOpen):Option Bool:=runF E1 H1 k 177 s_spec_l05Entry x
noncomputable def c_impl_isMode(k:Nat)(x:Int):Option Bool:=runF E1 H1 k 179 s_impl_isMode x
noncomputable def c_impl_IsAcl(k:Nat)(x:(List DOpen)):Option Bool:=runF E1 H1 k 180 s_impl_IsAcl x
noncomputable def c_strings_Repeat(k:Nat)(x:DerrorAddressString):Option ByteArray:=runF E1 H1 k 181 s_strings_Repeat x
noncomputable def c_laws_eqAclEntry(k:Nat)(x:(DOpen×DOpen)):Option Bool:=runF E1 H1 k 184 s_laws_eqAclEntry x
noncomputable def c_slices_Index_int_int(k:Nat)(x:((List Int)×Int)):Option Int:=runF E1 H1 k 187 s_slices_Index_int_int x
noncomputable def c_cmp_Or_int(k:Nat)(x:(List Int)):Option Int:=runF E1 H1 k 191 s_cmp_Or_int x
noncomputable def c_cmp_Compare_int(k:Nat)(x:DQuota):Option Int:=runF E1 H1 k 192 s_cmp_Compare_int x
noncomputable def c_cmp_isNaN_int(k:Nat)(x:Int):Option Bool:=runF E1 H1 k 197 s_cmp_isNaN_int x
theorem c_slices_Repeat_string_string_run(k:Nat)(x):c_slices_Repeat_string_string (k+1) x=ext_slices_Repeat_string_string x:=by kernel_rfl
theorem c_slices_Clone_string_string_run(k:Nat)(x):c_slices_Clone_string_string (k+1) x=ext_slices_Clone_string_string x:=by kernel_rfl
theorem c_strings_Join_run(k:Nat)(x):c_strings_Join (k+1) x=ext_strings_Join x:=by kernel_rfl
theorem c_strings_Repeat_run(k:Nat)(x):c_strings_Repeat (k+1) x=ext_strings_Repeat x:=by kernel_rfl
end Go.Proofs.YtnaipddflhjmfaaGreat
