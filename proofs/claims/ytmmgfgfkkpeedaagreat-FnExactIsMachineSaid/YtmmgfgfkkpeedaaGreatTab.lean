/- The tables, the residual functions and lemmas of this seat: parts of the proof of the law; conditions: those that each names. -/
import Derived.Test.YtmmgfgfkkpeedaaGreatEng5
import Derived.KernelRfl
import Derived.Test.YtmmgfgfkkpeedaaGreatProg
set_option maxRecDepth 100000
namespace Go.Proofs.YtmmgfgfkkpeedaaGreat
open Go.Eng
abbrev DQuota:Type:=(Int×Int)
abbrev DerrorAddressString:Type:=(ByteArray×Int)
abbrev DWrite:Type:=(Int×ByteArray)
abbrev DOpen:Type:=(Int×DQuota)
abbrev DCred:Type:=(Int×(Int×(List Int)))
abbrev DStep:Type:=(Bool×DWrite)
abbrev DboundsError:Type:=(Int×(Int×(Bool×Int)))
abbrev DDisk:Type:=((List ByteArray)×(List DWrite))
abbrev DProc:Type:=(DCred×(List DOpen))
abbrev DInode:Type:=(Int×(Int×(Int×(Int×(Int×(Int×(Int×((List Int)×((List DOpen)×(List DOpen))))))))))
abbrev DFS:Type:=(Int×((List DQuota)×((List DInode)×(List ByteArray))))
abbrev DSystem:Type:=(DFS×(List DProc))
abbrev DMachine:Type:=(DDisk×(Int×DSystem))
abbrev DConsole:Type:=(DMachine×Int)
abbrev TerrorAddressStringk:Ty:=(.pair .str (.int .u64))
abbrev TWritek:Ty:=(.pair (.int .i64) .str)
abbrev TQuotak:Ty:=(.pair (.int .i64) (.int .i64))
abbrev TStepk:Ty:=(.pair .bool TWritek)
abbrev TOpenk:Ty:=(.pair (.int .i64) TQuotak)
abbrev TDisko:Ty:=(.pair (.list true .str) (.list true TWritek))
abbrev TboundsErrork:Ty:=(.pair (.int .i64) (.pair (.int .i64) (.pair .bool (.int .u8))))
abbrev TCredo:Ty:=(.pair (.int .i64) (.pair (.int .i64) (.list true (.int .i64))))
abbrev TDiskk:Ty:=(.pair (.list false .str) (.list false TWritek))
abbrev TCredk:Ty:=(.pair (.int .i64) (.pair (.int .i64) (.list false (.int .i64))))
abbrev TProco:Ty:=(.pair TCredo (.list true TOpenk))
abbrev TProck:Ty:=(.pair TCredk (.list false TOpenk))
abbrev TInodeo:Ty:=(.pair (.int .i64) (.pair (.int .i64) (.pair (.int .i64) (.pair (.int .i64) (.pair (.int .i64) (.pair (.int .i64) (.pair (.int .i64) (.pair (.list true (.int .i64)) (.pair (.list true TOpenk) (.list true TOpenk))))))))))
abbrev TInodek:Ty:=(.pair (.int .i64) (.pair (.int .i64) (.pair (.int .i64) (.pair (.int .i64) (.pair (.int .i64) (.pair (.int .i64) (.pair (.int .i64) (.pair (.list false (.int .i64)) (.pair (.list false TOpenk) (.list false TOpenk))))))))))
abbrev TFSo:Ty:=(.pair (.int .i64) (.pair (.list true TQuotak) (.pair (.list true TInodeo) (.list true .str))))
abbrev TFSk:Ty:=(.pair (.int .i64) (.pair (.list false TQuotak) (.pair (.list false TInodek) (.list false .str))))
abbrev TSystemo:Ty:=(.pair TFSo (.list true TProco))
abbrev TSystemk:Ty:=(.pair TFSk (.list false TProck))
abbrev TMachineo:Ty:=(.pair TDisko (.pair (.int .i64) TSystemo))
abbrev TMachinek:Ty:=(.pair TDiskk (.pair (.int .i64) TSystemk))
abbrev TConsoleo:Ty:=(.pair TMachineo (.int .i64))
abbrev TConsolek:Ty:=(.pair TMachinek (.int .i64))
abbrev s_laws_FnExactIsMachine:Sig:=⟨[.val TMachinek],[.bool],none⟩
abbrev s_laws_szFS:Sig:=⟨[.val TFSk,.val (.int .i64)],[(.int .i64)],none⟩
abbrev s_laws_toFS:Sig:=⟨[.val TFSk],[TFSo],none⟩
abbrev s_laws_eqMachine:Sig:=⟨[.val TMachinek,.val TMachinek],[.bool],none⟩
abbrev s_laws_eqFS:Sig:=⟨[.val TFSk,.val TFSk],[.bool],none⟩
abbrev s_laws_szMachine:Sig:=⟨[.val TMachinek,.val (.int .i64)],[(.int .i64)],none⟩
abbrev s_spec_IsMachine:Sig:=⟨[.val TMachinek],[.bool],none⟩
abbrev s_laws_toMachine:Sig:=⟨[.val TMachinek],[TMachineo],none⟩
abbrev s_impl_IsMachine:Sig:=⟨[.val TMachinek],[.bool],none⟩
abbrev s_laws_szQuotaS:Sig:=⟨[.val (.list false TQuotak),.val (.int .i64)],[(.int .i64)],none⟩
abbrev s_laws_szInodeS:Sig:=⟨[.val (.list false TInodek),.val (.int .i64)],[(.int .i64)],none⟩
abbrev s_laws_szStringS:Sig:=⟨[.val (.list false .str),.val (.int .i64)],[(.int .i64)],none⟩
abbrev s_laws_szCred:Sig:=⟨[.val TCredk,.val (.int .i64)],[(.int .i64)],none⟩
abbrev s_laws_toQuotaS:Sig:=⟨[.val (.list false TQuotak)],[(.list true TQuotak)],none⟩
abbrev s_laws_toInodeS:Sig:=⟨[.val (.list false TInodek)],[(.list true TInodeo)],none⟩
abbrev s_laws_toStringS:Sig:=⟨[.val (.list false .str)],[(.list true .str)],none⟩
abbrev s_laws_toCred:Sig:=⟨[.val TCredk],[TCredo],none⟩
abbrev s_impl_IsSystem:Sig:=⟨[.val TSystemk],[.bool],none⟩
abbrev s_laws_eqDisk:Sig:=⟨[.val TDiskk,.val TDiskk],[.bool],none⟩
abbrev s_laws_eqSystem:Sig:=⟨[.val TSystemk,.val TSystemk],[.bool],none⟩
abbrev s_laws_eqQuotaS:Sig:=⟨[.val (.list false TQuotak),.val (.list false TQuotak)],[.bool],none⟩
abbrev s_laws_eqInodeS:Sig:=⟨[.val (.list false TInodek),.val (.list false TInodek)],[.bool],none⟩
abbrev s_laws_eqStringS:Sig:=⟨[.val (.list false .str),.val (.list false .str)],[.bool],none⟩
abbrev s_laws_eqCred:Sig:=⟨[.val TCredk,.val TCredk],[.bool],none⟩
abbrev s_laws_szDisk:Sig:=⟨[.val TDiskk,.val (.int .i64)],[(.int .i64)],none⟩
abbrev s_laws_szSystem:Sig:=⟨[.val TSystemk,.val (.int .i64)],[(.int .i64)],none⟩
abbrev s_spec_IsSystem:Sig:=⟨[.val TSystemk],[.bool],none⟩
abbrev s_spec_l01In:Sig:=⟨[.val (.int .i64),.val (.int .i64),.val (.int .i64)],[.bool],none⟩
abbrev s_spec_IsDisk:Sig:=⟨[.val TDiskk],[.bool],none⟩
abbrev s_spec_ReadJournal:Sig:=⟨[.val TDiskk],[(.int .i64),(.list true TWritek),.bool],none⟩
abbrev s_spec_LoadFS:Sig:=⟨[.val TDiskk],[TFSo,.bool],none⟩
abbrev s_spec_SameFS:Sig:=⟨[.val TFSk,.val TFSk],[.bool],none⟩
abbrev s_laws_toDisk:Sig:=⟨[.val TDiskk],[TDisko],none⟩
abbrev s_laws_toSystem:Sig:=⟨[.val TSystemk],[TSystemo],none⟩
abbrev s_impl_IsDisk:Sig:=⟨[.val TDiskk],[.bool],none⟩
abbrev s_impl_ReadJournal:Sig:=⟨[.val TDiskk],[(.int .i64),(.list true TWritek),.bool],none⟩
abbrev s_impl_LoadFS:Sig:=⟨[.val TDiskk],[TFSo,.bool],none⟩
abbrev s_impl_SameFS:Sig:=⟨[.val TFSk,.val TFSk],[.bool],none⟩
abbrev s_spec_IsFS:Sig:=⟨[.val TFSk],[.bool],none⟩
abbrev s_impl_IsFS:Sig:=⟨[.val TFSk],[.bool],none⟩
abbrev s_spec_PadTo:Sig:=⟨[.val .str,.val (.int .i64)],[.str],none⟩
abbrev s_slices_Repeat_string_string:Sig:=⟨[.val (.list false .str),.val (.int .i64)],[(.list true .str)],none⟩
abbrev s_impl_zeros:Sig:=⟨[.val (.int .i64)],[.str],none⟩
abbrev s_laws_szInode:Sig:=⟨[.val TInodek,.val (.int .i64)],[(.int .i64)],none⟩
abbrev s_laws_szIntS:Sig:=⟨[.val (.list false (.int .i64)),.val (.int .i64)],[(.int .i64)],none⟩
abbrev s_spec_l18Pack:Sig:=⟨[.val TFSk],[(.list true .str)],none⟩
abbrev s_laws_toQuota:Sig:=⟨[.val TQuotak],[TQuotak],none⟩
abbrev s_laws_toInode:Sig:=⟨[.val TInodek],[TInodeo],none⟩
abbrev s_laws_toIntS:Sig:=⟨[.val (.list false (.int .i64))],[(.list true (.int .i64))],none⟩
abbrev s_impl_IsCred:Sig:=⟨[.val TCredk],[.bool],none⟩
abbrev s_impl_FS_has:Sig:=⟨[.val (.ptr TFSk),.val (.int .i64)],[.bool],none⟩
abbrev s_impl_FS_isDir:Sig:=⟨[.val (.ptr TFSk),.val (.int .i64)],[.bool],none⟩
abbrev s_impl_System_isOpen:Sig:=⟨[.val (.ptr TSystemk),.val (.int .i64)],[.bool],none⟩
abbrev s_impl_PackFS:Sig:=⟨[.val TFSk],[(.list true .str)],none⟩
abbrev s_laws_eqWriteS:Sig:=⟨[.val (.list false TWritek),.val (.list false TWritek)],[.bool],none⟩
abbrev s_laws_eqProcS:Sig:=⟨[.val (.list false TProck),.val (.list false TProck)],[.bool],none⟩
abbrev s_laws_eqQuota:Sig:=⟨[.val TQuotak,.val TQuotak],[.bool],none⟩
abbrev s_laws_eqInode:Sig:=⟨[.val TInodek,.val TInodek],[.bool],none⟩
abbrev s_laws_eqIntS:Sig:=⟨[.val (.list false (.int .i64)),.val (.list false (.int .i64))],[.bool],none⟩
abbrev s_laws_szWriteS:Sig:=⟨[.val (.list false TWritek),.val (.int .i64)],[(.int .i64)],none⟩
abbrev s_laws_szProcS:Sig:=⟨[.val (.list false TProck),.val (.int .i64)],[(.int .i64)],none⟩
abbrev s_spec_IsCred:Sig:=⟨[.val TCredk],[.bool],none⟩
abbrev s_spec_l16Open:Sig:=⟨[.val TFSk,.val TOpenk],[.bool],none⟩
abbrev s_spec_l16Busy:Sig:=⟨[.val TSystemk],[(.list true (.int .i64))],none⟩
abbrev s_spec_l02Has:Sig:=⟨[.val (.list false (.int .i64)),.val (.int .i64)],[.bool],none⟩
abbrev s_spec_l03Read:Sig:=⟨[.val TDiskk,.val (.int .i64)],[.str],none⟩
abbrev s_spec_GetNumber:Sig:=⟨[.val .str,.val (.int .i64),.val (.int .i64)],[(.int .i64),.bool],none⟩
abbrev s_spec_IsTxn:Sig:=⟨[.val TDiskk,.val (.list false TWritek)],[.bool],none⟩
abbrev s_spec_CommitSector:Sig:=⟨[.val (.int .i64),.val (.list false TWritek)],[.str],none⟩
abbrev s_spec_UnpackFS:Sig:=⟨[.val (.list false .str)],[TFSo,.bool],none⟩
abbrev s_spec_l18Sectors:Sig:=⟨[.val TDiskk],[(.list true .str)],none⟩
abbrev s_spec_l02Texts:Sig:=⟨[.val (.list false .str),.val (.list false .str)],[.bool],none⟩
abbrev s_spec_SameInode:Sig:=⟨[.val TInodek,.val TInodek],[.bool],none⟩
abbrev s_laws_toWriteS:Sig:=⟨[.val (.list false TWritek)],[(.list true TWritek)],none⟩
abbrev s_laws_toProcS:Sig:=⟨[.val (.list false TProck)],[(.list true TProco)],none⟩
abbrev s_impl_Disk_read:Sig:=⟨[.val (.ptr TDiskk),.val (.int .i64)],[.str],none⟩
abbrev s_impl_GetNumber:Sig:=⟨[.val .str,.val (.int .i64),.val (.int .i64)],[(.int .i64),.bool],none⟩
abbrev s_impl_CommitSector:Sig:=⟨[.val (.int .i64),.val (.list false TWritek)],[.str],none⟩
abbrev s_impl_IsTxn:Sig:=⟨[.val TDiskk,.val (.list false TWritek)],[.bool],none⟩
abbrev s_impl_UnpackFS:Sig:=⟨[.val (.list false .str)],[TFSo,.bool],none⟩
abbrev s_slices_Equal_impl_Quota_impl_Quota:Sig:=⟨[.val (.list false TQuotak),.val (.list false TQuotak)],[.bool],none⟩
abbrev s_impl_SameInode:Sig:=⟨[.val TInodek,.val TInodek],[.bool],none⟩
abbrev s_slices_Equal_string_string:Sig:=⟨[.val (.list false .str),.val (.list false .str)],[.bool],none⟩
abbrev s_spec_IsInode:Sig:=⟨[.val TInodek],[.bool],none⟩
abbrev s_spec_l08Used:Sig:=⟨[.val TFSk],[(.list true .bool),.bool],none⟩
abbrev s_spec_IsZeroes:Sig:=⟨[.val .str],[.bool],none⟩
abbrev s_impl_IsInode:Sig:=⟨[.val TInodek],[.bool],none⟩
abbrev s_impl_BlockOwner:Sig:=⟨[.val (.int .i64)],[(.int .i64)],none⟩
abbrev s_impl_IsZeroes:Sig:=⟨[.val .str],[.bool],none⟩
abbrev s_laws_eqWrite:Sig:=⟨[.val TWritek,.val TWritek],[.bool],none⟩
abbrev s_laws_szAclEntryS:Sig:=⟨[.val (.list false TOpenk),.val (.int .i64)],[(.int .i64)],none⟩
abbrev s_spec_l18Super:Sig:=⟨[.val TFSk],[.str],none⟩
abbrev s_spec_CutAll:Sig:=⟨[.val .str,.val (.int .i64)],[(.list true .str)],none⟩
abbrev s_spec_PackInode:Sig:=⟨[.val TInodek],[.str],none⟩
abbrev s_laws_toAclEntryS:Sig:=⟨[.val (.list false TOpenk)],[(.list true TOpenk)],none⟩
abbrev s_slices_Contains_int_int:Sig:=⟨[.val (.list false (.int .i64)),.val (.int .i64)],[.bool],none⟩
abbrev s_impl_isUser:Sig:=⟨[.val (.int .i64)],[.bool],none⟩
abbrev s_impl_FS_super:Sig:=⟨[.val (.ptr TFSk)],[.str],none⟩
abbrev s_impl_CutAll:Sig:=⟨[.val .str,.val (.int .i64)],[(.list true .str)],none⟩
abbrev s_impl_PackInode:Sig:=⟨[.val TInodek],[.str],none⟩
abbrev s_laws_eqProc:Sig:=⟨[.val TProck,.val TProck],[.bool],none⟩
abbrev s_laws_eqAclEntryS:Sig:=⟨[.val (.list false TOpenk),.val (.list false TOpenk)],[.bool],none⟩
abbrev s_laws_szWrite:Sig:=⟨[.val TWritek,.val (.int .i64)],[(.int .i64)],none⟩
abbrev s_laws_szProc:Sig:=⟨[.val TProck,.val (.int .i64)],[(.int .i64)],none⟩
abbrev s_spec_l06User:Sig:=⟨[.val (.int .i64)],[.bool],none⟩
abbrev s_spec_l04Ok:Sig:=⟨[.val (.list false TWritek)],[.bool],none⟩
abbrev s_spec_PutNumber:Sig:=⟨[.val (.int .i64),.val (.int .i64)],[.str],none⟩
abbrev s_spec_ChecksumOf:Sig:=⟨[.val .str],[(.int .i64)],none⟩
abbrev s_spec_UnpackInode:Sig:=⟨[.val .str],[TInodeo,.bool],none⟩
abbrev s_spec_l02Same:Sig:=⟨[.val (.list false (.int .i64)),.val (.list false (.int .i64))],[.bool],none⟩
abbrev s_spec_l05Same:Sig:=⟨[.val (.list false TOpenk),.val (.list false TOpenk)],[.bool],none⟩
abbrev s_laws_toWrite:Sig:=⟨[.val TWritek],[TWritek],none⟩
abbrev s_laws_toProc:Sig:=⟨[.val TProck],[TProco],none⟩
abbrev s_impl_listed:Sig:=⟨[.val (.list false TWritek)],[.bool],none⟩
abbrev s_impl_PutNumber:Sig:=⟨[.val (.int .i64),.val (.int .i64)],[.str],none⟩
abbrev s_impl_PadTo:Sig:=⟨[.val .str,.val (.int .i64)],[.str],none⟩
abbrev s_impl_ChecksumOf:Sig:=⟨[.val .str],[(.int .i64)],none⟩
abbrev s_impl_UnpackInode:Sig:=⟨[.val .str],[TInodeo,.bool],none⟩
abbrev s_impl_Join:Sig:=⟨[.val (.list false .str),.val .str],[.str],none⟩
abbrev s_slices_Clone_string_string:Sig:=⟨[.val (.list false .str)],[(.list true .str)],none⟩
abbrev s_slices_Equal_int_int:Sig:=⟨[.val (.list false (.int .i64)),.val (.list false (.int .i64))],[.bool],none⟩
abbrev s_slices_Equal_impl_AclEntry_impl_AclEntry:Sig:=⟨[.val (.list false TOpenk),.val (.list false TOpenk)],[.bool],none⟩
abbrev s_spec_l06Mode:Sig:=⟨[.val (.int .i64)],[.bool],none⟩
abbrev s_spec_BlocksNeeded:Sig:=⟨[.val (.int .i64)],[(.int .i64)],none⟩
abbrev s_spec_IsAcl:Sig:=⟨[.val (.list false TOpenk)],[.bool],none⟩
abbrev s_spec_BlockOwner:Sig:=⟨[.val (.int .i64)],[(.int .i64)],none⟩
abbrev s_impl_isMode:Sig:=⟨[.val (.int .i64)],[.bool],none⟩
abbrev s_impl_BlocksNeeded:Sig:=⟨[.val (.int .i64)],[(.int .i64)],none⟩
abbrev s_impl_IsAcl:Sig:=⟨[.val (.list false TOpenk)],[.bool],none⟩
abbrev s_spec_PackAcl:Sig:=⟨[.val (.list false TOpenk)],[.str],none⟩
abbrev s_laws_toAclEntry:Sig:=⟨[.val TOpenk],[TOpenk],none⟩
abbrev s_slices_Index_int_int:Sig:=⟨[.val (.list false (.int .i64)),.val (.int .i64)],[(.int .i64)],none⟩
abbrev s_impl_PackAcl:Sig:=⟨[.val (.list false TOpenk)],[.str],none⟩
abbrev s_laws_eqOpenS:Sig:=⟨[.val (.list false TOpenk),.val (.list false TOpenk)],[.bool],none⟩
abbrev s_laws_eqAclEntry:Sig:=⟨[.val TOpenk,.val TOpenk],[.bool],none⟩
abbrev s_laws_szOpenS:Sig:=⟨[.val (.list false TOpenk),.val (.int .i64)],[(.int .i64)],none⟩
abbrev s_spec_UnpackAcl:Sig:=⟨[.val .str],[(.list true TOpenk),.bool],none⟩
abbrev s_laws_toOpenS:Sig:=⟨[.val (.list false TOpenk)],[(.list true TOpenk)],none⟩
abbrev s_strings_Repeat:Sig:=⟨[.val .str,.val (.int .i64)],[.str],none⟩
abbrev s_impl_UnpackAcl:Sig:=⟨[.val .str],[(.list true TOpenk),.bool],none⟩
abbrev s_strings_Join:Sig:=⟨[.val (.list false .str),.val .str],[.str],none⟩
abbrev s_spec_l05Entry:Sig:=⟨[.val TOpenk],[.bool],none⟩
abbrev s_cmp_Or_int:Sig:=⟨[.val (.list false (.int .i64))],[(.int .i64)],none⟩
abbrev s_cmp_Compare_int:Sig:=⟨[.val (.int .i64),.val (.int .i64)],[(.int .i64)],none⟩
abbrev s_laws_eqOpen:Sig:=⟨[.val TOpenk,.val TOpenk],[.bool],none⟩
abbrev s_laws_toOpen:Sig:=⟨[.val TOpenk],[TOpenk],none⟩
abbrev s_cmp_isNaN_int:Sig:=⟨[.val (.int .i64)],[.bool],none⟩
noncomputable def exts:List ExtE:=[⟨85,s_slices_Repeat_string_string,ext_slices_Repeat_string_string⟩,⟨192,s_slices_Clone_string_string,ext_slices_Clone_string_string⟩,⟨223,s_strings_Repeat,ext_strings_Repeat⟩,⟨226,s_strings_Join,ext_strings_Join⟩]
noncomputable def tab:Tab:={
 ty:=[(2,(.int .i64)),(3,(.int .i64)),(4,.bool),(5,(.int .u8)),(9,.str),(22,(.list false .str)),(23,(.list false TWritek)),(25,TDiskk),(26,(.list false TQuotak)),(27,(.list false TInodek)),(29,TFSk),(30,(.list false TProck)),(32,TSystemk),(34,TMachinek),(41,(.list false TQuotak)),(42,(.list false TInodek)),(44,TFSk),(60,(.list false TWritek)),(62,TDiskk),(63,(.list false TProck)),(65,TSystemk),(67,TMachinek),(78,TQuotak),(79,(.list false (.int .i64))),(81,TCredk),(87,TCredk),(121,TWritek),(125,(.list false TOpenk)),(127,TInodek),(132,(.list false TOpenk)),(134,TInodek),(137,(.list false TOpenk)),(139,TProck),(142,TQuotak),(147,TOpenk),(173,(.list false .bool)),(179,(.arr 56 .bool)),(183,(.list false (.int .u8))),(184,(.int .u64)),(195,(.ptr TFSk)),(201,TOpenk),(204,TWritek),(206,(.list false TOpenk)),(208,TProck),(232,TOpenk),(246,TOpenk)],
 nf:=[(25,2),(29,4),(32,2),(34,3),(44,4),(62,2),(65,2),(67,3),(78,2),(81,3),(87,3),(121,2),(127,10),(134,10),(139,2),(142,2),(147,3),(201,3),(204,2),(208,2),(232,3),(246,3)],
 el:=[(22,9,16),(23,121,24),(26,78,16),(27,127,128),(30,139,64),(79,3,8),(125,201,24),(137,147,24),(173,4,1),(183,5,1)],
 fnT:=[1,152],
 eqs:=[78,121,142,147,201,204,232,246],
 sig:=[(5,s_laws_FnExactIsMachine),(12,s_laws_szFS),(15,s_laws_toFS),(18,s_laws_eqMachine),(19,s_laws_eqFS),(25,s_laws_szMachine),(26,s_spec_IsMachine),(27,s_laws_toMachine),(28,s_impl_IsMachine),(36,s_laws_szQuotaS),(37,s_laws_szInodeS),(38,s_laws_szStringS),(39,s_laws_szCred),(42,s_laws_toQuotaS),(43,s_laws_toInodeS),(44,s_laws_toStringS),(45,s_laws_toCred),(47,s_impl_IsSystem),(49,s_laws_eqDisk),(50,s_laws_eqSystem),(51,s_laws_eqQuotaS),(52,s_laws_eqInodeS),(53,s_laws_eqStringS),(54,s_laws_eqCred),(63,s_laws_szDisk),(64,s_laws_szSystem),(65,s_spec_IsSystem),(66,s_spec_l01In),(67,s_spec_IsDisk),(68,s_spec_ReadJournal),(69,s_spec_LoadFS),(70,s_spec_SameFS),(71,s_laws_toDisk),(72,s_laws_toSystem),(73,s_impl_IsDisk),(74,s_impl_ReadJournal),(75,s_impl_LoadFS),(76,s_impl_SameFS),(77,s_spec_IsFS),(79,s_impl_IsFS),(83,s_spec_PadTo),(85,s_slices_Repeat_string_string),(86,s_impl_zeros),(87,s_laws_szInode),(88,s_laws_szIntS),(91,s_spec_l18Pack),(92,s_laws_toQuota),(93,s_laws_toInode),(94,s_laws_toIntS),(97,s_impl_IsCred),(98,s_impl_FS_has),(99,s_impl_FS_isDir),(100,s_impl_System_isOpen),(101,s_impl_PackFS),(102,s_laws_eqWriteS),(103,s_laws_eqProcS),(104,s_laws_eqQuota),(105,s_laws_eqInode),(106,s_laws_eqIntS),(114,s_laws_szWriteS),(115,s_laws_szProcS),(116,s_spec_IsCred),(117,s_spec_l16Open),(118,s_spec_l16Busy),(119,s_spec_l02Has),(120,s_spec_l03Read),(121,s_spec_GetNumber),(122,s_spec_IsTxn),(123,s_spec_CommitSector),(124,s_spec_UnpackFS),(125,s_spec_l18Sectors),(126,s_spec_l02Texts),(127,s_spec_SameInode),(128,s_laws_toWriteS),(129,s_laws_toProcS),(130,s_impl_Disk_read),(131,s_impl_GetNumber),(132,s_impl_CommitSector),(133,s_impl_IsTxn),(134,s_impl_UnpackFS),(135,s_slices_Equal_impl_Quota_impl_Quota),(137,s_impl_SameInode),(138,s_slices_Equal_string_string),(139,s_spec_IsInode),(140,s_spec_l08Used),(141,s_spec_IsZeroes),(144,s_impl_IsInode),(145,s_impl_BlockOwner),(146,s_impl_IsZeroes),(149,s_laws_eqWrite),(151,s_laws_szAclEntryS),(155,s_spec_l18Super),(156,s_spec_CutAll),(157,s_spec_PackInode),(158,s_laws_toAclEntryS),(161,s_slices_Contains_int_int),(164,s_impl_isUser),(165,s_impl_FS_super),(166,s_impl_CutAll),(167,s_impl_PackInode),(168,s_laws_eqProc),(169,s_laws_eqAclEntryS),(175,s_laws_szWrite),(176,s_laws_szProc),(177,s_spec_l06User),(178,s_spec_l04Ok),(179,s_spec_PutNumber),(180,s_spec_ChecksumOf),(181,s_spec_UnpackInode),(182,s_spec_l02Same),(183,s_spec_l05Same),(184,s_laws_toWrite),(185,s_laws_toProc),(186,s_impl_listed),(187,s_impl_PutNumber),(188,s_impl_PadTo),(189,s_impl_ChecksumOf),(190,s_impl_UnpackInode),(191,s_impl_Join),(192,s_slices_Clone_string_string),(193,s_slices_Equal_int_int),(194,s_slices_Equal_impl_AclEntry_impl_AclEntry),(195,s_spec_l06Mode),(196,s_spec_BlocksNeeded),(197,s_spec_IsAcl),(198,s_spec_BlockOwner),(201,s_impl_isMode),(202,s_impl_BlocksNeeded),(203,s_impl_IsAcl),(211,s_spec_PackAcl),(212,s_laws_toAclEntry),(214,s_slices_Index_int_int),(216,s_impl_PackAcl),(217,s_laws_eqOpenS),(218,s_laws_eqAclEntry),(220,s_laws_szOpenS),(221,s_spec_UnpackAcl),(222,s_laws_toOpenS),(223,s_strings_Repeat),(225,s_impl_UnpackAcl),(226,s_strings_Join),(227,s_spec_l05Entry),(228,s_cmp_Or_int),(229,s_cmp_Compare_int),(232,s_laws_eqOpen),(233,s_laws_toOpen),(239,s_cmp_isNaN_int)],
 body:=[(5,Tryz.f5),(12,Tryz.f12),(15,Tryz.f15),(18,Tryz.f18),(19,Tryz.f19),(25,Tryz.f25),(26,Tryz.f26),(27,Tryz.f27),(28,Tryz.f28),(36,Tryz.f36),(37,Tryz.f37),(38,Tryz.f38),(39,Tryz.f39),(42,Tryz.f42),(43,Tryz.f43),(44,Tryz.f44),(45,Tryz.f45),(47,Tryz.f47),(49,Tryz.f49),(50,Tryz.f50),(51,Tryz.f51),(52,Tryz.f52),(53,Tryz.f53),(54,Tryz.f54),(63,Tryz.f63),(64,Tryz.f64),(65,Tryz.f65),(66,Tryz.f66),(67,Tryz.f67),(68,Tryz.f68),(69,Tryz.f69),(70,Tryz.f70),(71,Tryz.f71),(72,Tryz.f72),(73,Tryz.f73),(74,Tryz.f74),(75,Tryz.f75),(76,Tryz.f76),(77,Tryz.f77),(79,Tryz.f79),(83,Tryz.f83),(86,Tryz.f86),(87,Tryz.f87),(88,Tryz.f88),(91,Tryz.f91),(92,Tryz.f92),(93,Tryz.f93),(94,Tryz.f94),(97,Tryz.f97),(98,Tryz.f98),(99,Tryz.f99),(100,Tryz.f100),(101,Tryz.f101),(102,Tryz.f102),(103,Tryz.f103),(104,Tryz.f104),(105,Tryz.f105),(106,Tryz.f106),(114,Tryz.f114),(115,Tryz.f115),(116,Tryz.f116),(117,Tryz.f117),(118,Tryz.f118),(119,Tryz.f119),(120,Tryz.f120),(121,Tryz.f121),(122,Tryz.f122),(123,Tryz.f123),(124,Tryz.f124),(125,Tryz.f125),(126,Tryz.f126),(127,Tryz.f127),(128,Tryz.f128),(129,Tryz.f129),(130,Tryz.f130),(131,Tryz.f131),(132,Tryz.f132),(133,Tryz.f133),(134,Tryz.f134),(135,Tryz.f135),(136,Tryz.f136),(137,Tryz.f137),(138,Tryz.f138),(139,Tryz.f139),(140,Tryz.f140),(141,Tryz.f141),(144,Tryz.f144),(145,Tryz.f145),(146,Tryz.f146),(149,Tryz.f149),(151,Tryz.f151),(155,Tryz.f155),(156,Tryz.f156),(157,Tryz.f157),(158,Tryz.f158),(161,Tryz.f161),(164,Tryz.f164),(165,Tryz.f165),(166,Tryz.f166),(167,Tryz.f167),(168,Tryz.f168),(169,Tryz.f169),(175,Tryz.f175),(176,Tryz.f176),(177,Tryz.f177),(178,Tryz.f178),(179,Tryz.f179),(180,Tryz.f180),(181,Tryz.f181),(182,Tryz.f182),(183,Tryz.f183),(184,Tryz.f184),(185,Tryz.f185),(186,Tryz.f186),(187,Tryz.f187),(188,Tryz.f188),(189,Tryz.f189),(190,Tryz.f190),(191,Tryz.f191),(193,Tryz.f193),(194,Tryz.f194),(195,Tryz.f195),(196,Tryz.f196),(197,Tryz.f197),(198,Tryz.f198),(201,Tryz.f201),(202,Tryz.f202),(203,Tryz.f203),(211,Tryz.f211),(212,Tryz.f212),(214,Tryz.f214),(216,Tryz.f216),(217,Tryz.f217),(218,Tryz.f218),(220,Tryz.f220),(221,Tryz.f221),(222,Tryz.f222),(224,Tryz.f224),(225,Tryz.f225),(227,Tryz.f227),(228,Tryz.f228),(229,Tryz.f229),(232,Tryz.f232),(233,Tryz.f233),(239,Tryz.f239)]}
noncomputable def E1:Env:=tab.env (extOf exts)
noncomputable def H1:Nat→Hints:=fun f=>(Eng.look [(37,⟨fun r=>(Eng.look [(5,[(0,none),(1,none),(5,none)])] r).getD [],fun r=>Eng.look [] r⟩),
 (38,⟨fun r=>(Eng.look [(5,[(0,none),(1,none),(5,none)])] r).getD [],fun r=>Eng.look [] r⟩),
 (42,⟨fun r=>(Eng.look [(3,[(0,none),(3,none),(4,none)])] r).getD [],fun r=>Eng.look [] r⟩),
 (43,⟨fun r=>(Eng.look [(3,[(0,none),(3,none),(4,none)])] r).getD [],fun r=>Eng.look [] r⟩),
 (44,⟨fun r=>(Eng.look [(3,[(0,none),(3,none),(4,none)])] r).getD [],fun r=>Eng.look [] r⟩),
 (47,⟨fun r=>(Eng.look [(4,[(1,none),(20,none),(21,none),(22,none)]),(9,[(1,none),(20,none),(21,none),(22,none),(37,none),(38,none),(39,none)]),(17,[(1,none),(87,none),(88,none),(89,none)])] r).getD [],fun r=>Eng.look [] r⟩),
 (51,⟨fun r=>(Eng.look [(4,[(0,none),(1,none),(5,none)])] r).getD [],fun r=>Eng.look [] r⟩),
 (52,⟨fun r=>(Eng.look [(4,[(0,none),(1,none),(5,none)])] r).getD [],fun r=>Eng.look [] r⟩),
 (53,⟨fun r=>(Eng.look [(4,[(0,none),(1,none),(5,none)])] r).getD [],fun r=>Eng.look [] r⟩),
 (65,⟨fun r=>(Eng.look [(4,[(1,none),(21,none),(22,none),(23,none)]),(9,[(1,none),(21,none),(22,none),(23,none),(38,none),(39,none),(40,none)]),(17,[(7,none),(55,none),(56,none),(57,none)])] r).getD [],fun r=>Eng.look [] r⟩),
 (67,⟨fun r=>(Eng.look [(2,[(1,none),(8,none),(9,none),(10,none)]),(8,[(1,none),(19,none),(20,none),(21,none)])] r).getD [],fun r=>Eng.look [] r⟩),
 (68,⟨fun r=>(Eng.look [(10,[(1,none),(5,none),(6,none),(8,none),(10,none),(11,none)])] r).getD [],fun r=>Eng.look [] r⟩),
 (70,⟨fun r=>(Eng.look [(4,[(2,none),(3,none),(41,none),(42,none),(43,none)]),(10,[(3,none),(57,none),(58,none),(59,none)])] r).getD [],fun r=>Eng.look [] r⟩),
 (73,⟨fun r=>(Eng.look [(4,[(1,none),(18,none),(19,none),(20,none)]),(10,[(1,none),(29,none),(30,none),(31,none)])] r).getD [],fun r=>Eng.look [] r⟩),
 (74,⟨fun r=>(Eng.look [(10,[(1,none),(5,none),(6,none),(10,none),(37,none),(38,none)])] r).getD [],fun r=>Eng.look [] r⟩),
 (75,⟨fun r=>(Eng.look [(5,[(1,none),(2,none),(4,none),(19,none),(20,none)])] r).getD [],fun r=>Eng.look [] r⟩),
 (77,⟨fun r=>(Eng.look [(4,[(1,none),(37,none),(38,none),(39,none)]),(10,[(1,none),(55,none),(56,none),(57,none)]),(21,[(1,none),(7,none),(79,none),(80,none),(81,none)]),(27,[(1,none),(103,none),(104,none),(105,none)])] r).getD [],fun r=>Eng.look [] r⟩),
 (79,⟨fun r=>(Eng.look [(4,[(1,none),(42,none),(43,none),(44,none)]),(10,[(1,none),(68,none),(69,none),(70,none)]),(17,[(1,none),(7,none),(79,none),(80,none),(81,none)]),(22,[(1,none),(7,none),(9,none),(79,none),(80,none),(81,none),(89,none),(90,none),(91,none)]),(34,[(1,none),(7,none),(131,none),(132,none),(133,none)])] r).getD [],fun r=>Eng.look [] r⟩),
 (83,⟨fun r=>(Eng.look [(4,[(1,none),(5,none)])] r).getD [],fun r=>Eng.look [] r⟩),
 (91,⟨fun r=>(Eng.look [(2,[(1,none),(3,none)]),(5,[(1,none),(3,none),(17,none),(18,none),(19,none)])] r).getD [],fun r=>Eng.look [] r⟩),
 (94,⟨fun r=>(Eng.look [(3,[(0,none),(3,none),(4,none)])] r).getD [],fun r=>Eng.look [] r⟩),
 (97,⟨fun r=>(Eng.look [(2,[(1,none),(6,none),(7,none),(8,none)])] r).getD [],fun r=>Eng.look [] r⟩),
 (100,⟨fun r=>(Eng.look [(2,[(1,none),(12,none),(13,none),(14,none)]),(5,[(1,none),(12,none),(13,none),(14,none),(19,none),(20,none),(21,none)])] r).getD [],fun r=>Eng.look [] r⟩),
 (101,⟨fun r=>(Eng.look [(5,[(1,none),(3,none),(16,none),(17,none),(18,none)])] r).getD [],fun r=>Eng.look [] r⟩),
 (102,⟨fun r=>(Eng.look [(4,[(0,none),(1,none),(5,none)])] r).getD [],fun r=>Eng.look [] r⟩),
 (103,⟨fun r=>(Eng.look [(4,[(0,none),(1,none),(5,none)])] r).getD [],fun r=>Eng.look [] r⟩),
 (106,⟨fun r=>(Eng.look [(4,[(0,none),(1,none),(5,none)])] r).getD [],fun r=>Eng.look [] r⟩),
 (114,⟨fun r=>(Eng.look [(5,[(0,none),(1,none),(5,none)])] r).getD [],fun r=>Eng.look [] r⟩),
 (115,⟨fun r=>(Eng.look [(5,[(0,none),(1,none),(5,none)])] r).getD [],fun r=>Eng.look [] r⟩),
 (116,⟨fun r=>(Eng.look [(2,[(1,none),(6,none),(7,none),(8,none)])] r).getD [],fun r=>Eng.look [] r⟩),
 (118,⟨fun r=>(Eng.look [(3,[(1,none),(3,none),(4,none)]),(7,[(1,none),(3,none),(4,none),(5,none),(16,none),(17,none),(18,none)]),(10,[(1,none),(3,none),(4,none),(5,none),(16,none),(17,none),(18,none),(23,none),(24,none),(25,none)])] r).getD [],fun r=>Eng.look [] r⟩),
 (119,⟨fun r=>(Eng.look [(2,[(1,none),(7,none),(8,none),(9,none)])] r).getD [],fun r=>Eng.look [] r⟩),
 (120,⟨fun r=>(Eng.look [(2,[(1,none),(2,none),(5,none)])] r).getD [],fun r=>Eng.look [] r⟩),
 (121,⟨fun r=>(Eng.look [(5,[(0,none),(1,none),(2,none),(8,none),(9,none)])] r).getD [],fun r=>Eng.look [] r⟩),
 (122,⟨fun r=>(Eng.look [(4,[(1,none),(2,none),(22,none),(23,none),(24,none)])] r).getD [],fun r=>Eng.look [] r⟩),
 (123,⟨fun r=>(Eng.look [(5,[(0,none),(1,none),(5,none),(16,none),(17,none),(18,none)])] r).getD [],fun r=>Eng.look [] r⟩),
 (124,⟨fun r=>(Eng.look [(6,[(0,none),(2,none),(4,none),(5,none)]),(10,[(0,none),(2,none),(4,none),(6,none)]),(20,[(0,none),(2,none),(4,none),(107,none),(108,none),(109,none)])] r).getD [],fun r=>Eng.look [] r⟩),
 (125,⟨fun r=>(Eng.look [(3,[(3,none),(11,none),(12,none),(13,none)])] r).getD [],fun r=>Eng.look [] r⟩),
 (126,⟨fun r=>(Eng.look [(4,[(1,none),(12,none),(13,none),(14,none)])] r).getD [],fun r=>Eng.look [] r⟩),
 (128,⟨fun r=>(Eng.look [(3,[(0,none),(3,none),(4,none)])] r).getD [],fun r=>Eng.look [] r⟩),
 (129,⟨fun r=>(Eng.look [(3,[(0,none),(3,none),(4,none)])] r).getD [],fun r=>Eng.look [] r⟩),
 (130,⟨fun r=>(Eng.look [(2,[(0,none),(1,none),(5,none)])] r).getD [],fun r=>Eng.look [] r⟩),
 (131,⟨fun r=>(Eng.look [(5,[(0,none),(1,none),(8,none),(28,none),(29,none)])] r).getD [],fun r=>Eng.look [] r⟩),
 (132,⟨fun r=>(Eng.look [(5,[(0,none),(1,none),(5,none),(19,none),(20,none),(21,none)])] r).getD [],fun r=>Eng.look [] r⟩),
 (133,⟨fun r=>(Eng.look [(4,[(1,none),(2,none),(26,none),(27,none),(28,none)])] r).getD [],fun r=>Eng.look [] r⟩),
 (134,⟨fun r=>(Eng.look [(6,[(0,none),(2,none),(5,none),(6,none),(30,none)]),(14,[(0,none),(2,none),(5,none),(6,none),(69,none)]),(23,[(0,none),(2,none),(6,none),(110,none),(111,none),(112,none)])] r).getD [],fun r=>Eng.look [] r⟩),
 (135,⟨fun r=>(Eng.look [(4,[(0,none),(1,none),(12,none),(13,none)])] r).getD [],fun r=>Eng.look [] r⟩),
 (136,⟨fun r=>(Eng.look [(4,[(1,none),(2,none),(15,none),(16,none),(17,none)])] r).getD [],fun r=>Eng.look [] r⟩),
 (138,⟨fun r=>(Eng.look [(4,[(0,none),(1,none),(12,none),(13,none)])] r).getD [],fun r=>Eng.look [] r⟩),
 (139,⟨fun r=>(Eng.look [(6,[(1,none),(65,none),(66,none),(67,none)])] r).getD [],fun r=>Eng.look [(5,[(1,none)]),(13,[(1,none)])] r⟩),
 (140,⟨fun r=>(Eng.look [(3,[(4,none),(11,none),(12,none),(13,none)]),(6,[(4,none),(6,none),(11,none),(12,none),(13,none),(18,none),(19,none),(20,none)])] r).getD [],fun r=>Eng.look [] r⟩),
 (141,⟨fun r=>(Eng.look [(2,[(0,none),(3,none)])] r).getD [],fun r=>Eng.look [] r⟩),
 (144,⟨fun r=>(Eng.look [(10,[(1,none),(83,none),(84,none),(85,none)])] r).getD [],fun r=>Eng.look [(7,[(1,none)])] r⟩),
 (146,⟨fun r=>(Eng.look [(2,[(0,none),(5,none),(6,none)])] r).getD [],fun r=>Eng.look [] r⟩),
 (155,⟨fun r=>(Eng.look [(3,[(3,none),(11,none),(12,none),(13,none)])] r).getD [],fun r=>Eng.look [] r⟩),
 (156,⟨fun r=>(Eng.look [(4,[(0,none),(1,none),(5,none)])] r).getD [],fun r=>Eng.look [] r⟩),
 (157,⟨fun r=>(Eng.look [(5,[(1,none),(3,none),(4,none)])] r).getD [],fun r=>Eng.look [] r⟩),
 (158,⟨fun r=>(Eng.look [(3,[(0,none),(3,none),(4,none)])] r).getD [],fun r=>Eng.look [] r⟩),
 (165,⟨fun r=>(Eng.look [(3,[(3,none),(15,none),(16,none),(17,none)])] r).getD [],fun r=>Eng.look [] r⟩),
 (166,⟨fun r=>(Eng.look [(4,[(0,none),(1,none),(5,none)])] r).getD [],fun r=>Eng.look [] r⟩),
 (167,⟨fun r=>(Eng.look [(5,[(1,none),(3,none),(36,none)])] r).getD [],fun r=>Eng.look [] r⟩),
 (169,⟨fun r=>(Eng.look [(4,[(0,none),(1,none),(5,none)])] r).getD [],fun r=>Eng.look [] r⟩),
 (178,⟨fun r=>(Eng.look [(2,[(0,none),(5,none),(6,none),(7,none)])] r).getD [],fun r=>Eng.look [] r⟩),
 (179,⟨fun r=>(Eng.look [(5,[(0,none),(5,none),(6,none)])] r).getD [],fun r=>Eng.look [] r⟩),
 (180,⟨fun r=>(Eng.look [(4,[(0,none),(3,none),(4,none),(5,none)])] r).getD [],fun r=>Eng.look [] r⟩),
 (181,⟨fun r=>(Eng.look [(12,[(0,none),(2,none),(4,none),(5,none)])] r).getD [],fun r=>Eng.look [] r⟩),
 (182,⟨fun r=>(Eng.look [(4,[(1,none),(12,none),(13,none),(14,none)])] r).getD [],fun r=>Eng.look [] r⟩),
 (183,⟨fun r=>(Eng.look [(4,[(1,none),(12,none),(13,none),(14,none)])] r).getD [],fun r=>Eng.look [] r⟩),
 (186,⟨fun r=>(Eng.look [(2,[(0,none),(5,none),(6,none),(7,none)])] r).getD [],fun r=>Eng.look [] r⟩),
 (187,⟨fun r=>(Eng.look [(5,[(0,none),(5,none),(6,none)])] r).getD [],fun r=>Eng.look [] r⟩),
 (189,⟨fun r=>(Eng.look [(3,[(0,none),(3,none),(4,none),(7,none),(8,none)])] r).getD [],fun r=>Eng.look [] r⟩),
 (190,⟨fun r=>(Eng.look [(7,[(1,none),(2,none),(4,none),(5,none),(6,none),(33,none)])] r).getD [],fun r=>Eng.look [] r⟩),
 (193,⟨fun r=>(Eng.look [(4,[(0,none),(1,none),(12,none),(13,none)])] r).getD [],fun r=>Eng.look [] r⟩),
 (194,⟨fun r=>(Eng.look [(4,[(0,none),(1,none),(12,none),(13,none)])] r).getD [],fun r=>Eng.look [] r⟩),
 (197,⟨fun r=>(Eng.look [(2,[(0,none),(6,none),(7,none),(8,none)])] r).getD [],fun r=>Eng.look [] r⟩),
 (203,⟨fun r=>(Eng.look [(4,[(0,none),(8,none),(9,none),(10,none)])] r).getD [],fun r=>Eng.look [(17,[(0,none),(3,none),(4,none),(8,none),(9,none),(10,none)])] r⟩),
 (211,⟨fun r=>(Eng.look [(5,[(3,none),(12,none),(13,none),(14,none)])] r).getD [],fun r=>Eng.look [] r⟩),
 (214,⟨fun r=>(Eng.look [(2,[(0,none),(1,none),(7,none),(8,none)])] r).getD [],fun r=>Eng.look [] r⟩),
 (216,⟨fun r=>(Eng.look [(5,[(3,none),(12,none),(13,none),(14,none)])] r).getD [],fun r=>Eng.look [] r⟩),
 (217,⟨fun r=>(Eng.look [(4,[(0,none),(1,none),(5,none)])] r).getD [],fun r=>Eng.look [] r⟩),
 (221,⟨fun r=>(Eng.look [(5,[(0,none),(4,none),(5,none)])] r).getD [],fun r=>Eng.look [] r⟩),
 (222,⟨fun r=>(Eng.look [(3,[(0,none),(3,none),(4,none)])] r).getD [],fun r=>Eng.look [] r⟩),
 (225,⟨fun r=>(Eng.look [(5,[(0,none),(4,none),(17,none),(18,none)])] r).getD [],fun r=>Eng.look [] r⟩),
 (228,⟨fun r=>(Eng.look [(3,[(3,none),(6,none),(7,none),(8,none)])] r).getD [],fun r=>Eng.look [] r⟩)] f).getD ⟨fun _=>[],fun _=>none⟩
noncomputable def c_laws_FnExactIsMachine(k:Nat)(x:DMachine):Option Bool:=runF E1 H1 k 5 s_laws_FnExactIsMachine x
noncomputable def c_laws_szFS(k:Nat)(x:(DFS×Int)):Option Int:=runF E1 H1 k 12 s_laws_szFS x
noncomputable def c_laws_toFS(k:Nat)(x:DFS):Option DFS:=runF E1 H1 k 15 s_laws_toFS x
noncomputable def c_laws_eqMachine(k:Nat)(x:(DMachine×DMachine)):Option Bool:=runF E1 H1 k 18 s_laws_eqMachine x
noncomputable def c_laws_eqFS(k:Nat)(x:(DFS×DFS)):Option Bool:=runF E1 H1 k 19 s_laws_eqFS x
noncomputable def c_laws_szMachine(k:Nat)(x:DConsole):Option Int:=runF E1 H1 k 25 s_laws_szMachine x
noncomputable def c_spec_IsMachine(k:Nat)(x:DMachine):Option Bool:=runF E1 H1 k 26 s_spec_IsMachine x
noncomputable def c_laws_toMachine(k:Nat)(x:DMachine):Option DMachine:=runF E1 H1 k 27 s_laws_toMachine x
noncomputable def c_impl_IsMachine(k:Nat)(x:DMachine):Option Bool:=runF E1 H1 k 28 s_impl_IsMachine x
noncomputable def c_laws_szQuotaS(k:Nat)(x:((List DQuota)×Int)):Option Int:=runF E1 H1 k 36 s_laws_szQuotaS x
noncomputable def c_laws_szInodeS(k:Nat)(x:((List DInode)×Int)):Option Int:=runF E1 H1 k 37 s_laws_szInodeS x
noncomputable def c_laws_szStringS(k:Nat)(x:((List ByteArray)×Int)):Option Int:=runF E1 H1 k 38 s_laws_szStringS x
noncomputable def c_laws_szCred(k:Nat)(x:(DCred×Int)):Option Int:=runF E1 H1 k 39 s_laws_szCred x
noncomputable def c_laws_toQuotaS(k:Nat)(x:(List DQuota)):Option (List DQuota):=runF E1 H1 k 42 s_laws_toQuotaS x
noncomputable def c_laws_toInodeS(k:Nat)(x:(List DInode)):Option (List DInode):=runF E1 H1 k 43 s_laws_toInodeS x
noncomputable def c_laws_toStringS(k:Nat)(x:(List ByteArray)):Option (List ByteArray):=runF E1 H1 k 44 s_laws_toStringS x
noncomputable def c_laws_toCred(k:Nat)(x:DCred):Option DCred:=runF E1 H1 k 45 s_laws_toCred x
noncomputable def c_impl_IsSystem(k:Nat)(x:DSystem):Option Bool:=runF E1 H1 k 47 s_impl_IsSystem x
noncomputable def c_laws_eqDisk(k:Nat)(x:(DDisk×DDisk)):Option Bool:=runF E1 H1 k 49 s_laws_eqDisk x
noncomputable def c_laws_eqSystem(k:Nat)(x:(DSystem×DSystem)):Option Bool:=runF E1 H1 k 50 s_laws_eqSystem x
noncomputable def c_laws_eqQuotaS(k:Nat)(x:((List DQuota)×(List DQuota))):Option Bool:=runF E1 H1 k 51 s_laws_eqQuotaS x
noncomputable def c_laws_eqInodeS(k:Nat)(x:((List DInode)×(List DInode))):Option Bool:=runF E1 H1 k 52 s_laws_eqInodeS x
noncomputable def c_laws_eqStringS(k:Nat)(x:((List ByteArray)×(List ByteArray))):Option Bool:=runF E1 H1 k 53 s_laws_eqStringS x
noncomputable def c_laws_eqCred(k:Nat)(x:(DCred×DCred)):Option Bool:=runF E1 H1 k 54 s_laws_eqCred x
noncomputable def c_laws_szDisk(k:Nat)(x:(DDisk×Int)):Option Int:=runF E1 H1 k 63 s_laws_szDisk x
noncomputable def c_laws_szSystem(k:Nat)(x:(DSystem×Int)):Option Int:=runF E1 H1 k 64 s_laws_szSystem x
noncomputable def c_spec_IsSystem(k:Nat)(x:DSystem):Option Bool:=runF E1 H1 k 65 s_spec_IsSystem x
noncomputable def c_spec_l01In(k:Nat)(x:DOpen):Option Bool:=runF E1 H1 k 66 s_spec_l01In x
noncomputable def c_spec_IsDisk(k:Nat)(x:DDisk):Option Bool:=runF E1 H1 k 67 s_spec_IsDisk x
noncomputable def c_spec_ReadJournal(k:Nat)(x:DDisk):Option (Int×((List DWrite)×Bool)):=runF E1 H1 k 68 s_spec_ReadJournal x
noncomputable def c_spec_LoadFS(k:Nat)(x:DDisk):Option (DFS×Bool):=runF E1 H1 k 69 s_spec_LoadFS x
noncomputable def c_spec_SameFS(k:Nat)(x:(DFS×DFS)):Option Bool:=runF E1 H1 k 70 s_spec_SameFS x
noncomputable def c_laws_toDisk(k:Nat)(x:DDisk):Option DDisk:=runF E1 H1 k 71 s_laws_toDisk x
noncomputable def c_laws_toSystem(k:Nat)(x:DSystem):Option DSystem:=runF E1 H1 k 72 s_laws_toSystem x
noncomputable def c_impl_IsDisk(k:Nat)(x:DDisk):Option Bool:=runF E1 H1 k 73 s_impl_IsDisk x
noncomputable def c_impl_ReadJournal(k:Nat)(x:DDisk):Option (Int×((List DWrite)×Bool)):=runF E1 H1 k 74 s_impl_ReadJournal x
noncomputable def c_impl_LoadFS(k:Nat)(x:DDisk):Option (DFS×Bool):=runF E1 H1 k 75 s_impl_LoadFS x
noncomputable def c_impl_SameFS(k:Nat)(x:(DFS×DFS)):Option Bool:=runF E1 H1 k 76 s_impl_SameFS x
noncomputable def c_spec_IsFS(k:Nat)(x:DFS):Option Bool:=runF E1 H1 k 77 s_spec_IsFS x
noncomputable def c_impl_IsFS(k:Nat)(x:DFS):Option Bool:=runF E1 H1 k 79 s_impl_IsFS x
noncomputable def c_spec_PadTo(k:Nat)(x:DerrorAddressString):Option ByteArray:=runF E1 H1 k 83 s_spec_PadTo x
noncomputable def c_slices_Repeat_string_string(k:Nat)(x:((List ByteArray)×Int)):Option (List ByteArray):=runF E1 H1 k 85 s_slices_Repeat_string_string x
noncomputable def c_impl_zeros(k:Nat)(x:Int):Option ByteArray:=runF E1 H1 k 86 s_impl_zeros x
noncomputable def c_laws_szInode(k:Nat)(x:(DInode×Int)):Option Int:=runF E1 H1 k 87 s_laws_szInode x
noncomputable def c_laws_szIntS(k:Nat)(x:((List Int)×Int)):Option Int:=runF E1 H1 k 88 s_laws_szIntS x
noncomputable def c_spec_l18Pack(k:Nat)(x:DFS):Option (List ByteArray):=runF E1 H1 k 91 s_spec_l18Pack x
noncomputable def c_laws_toQuota(k:Nat)(x:DQuota):Option DQuota:=runF E1 H1 k 92 s_laws_toQuota x
noncomputable def c_laws_toInode(k:Nat)(x:DInode):Option DInode:=runF E1 H1 k 93 s_laws_toInode x
noncomputable def c_laws_toIntS(k:Nat)(x:(List Int)):Option (List Int):=runF E1 H1 k 94 s_laws_toIntS x
noncomputable def c_impl_IsCred(k:Nat)(x:DCred):Option Bool:=runF E1 H1 k 97 s_impl_IsCred x
noncomputable def c_impl_FS_has(k:Nat)(x:((Option DFS)×Int)):Option Bool:=runF E1 H1 k 98 s_impl_FS_has x
noncomputable def c_impl_FS_isDir(k:Nat)(x:((Option DFS)×Int)):Option Bool:=runF E1 H1 k 99 s_impl_FS_isDir x
noncomputable def c_impl_System_isOpen(k:Nat)(x:((Option DSystem)×Int)):Option Bool:=runF E1 H1 k 100 s_impl_System_isOpen x
noncomputable def c_impl_PackFS(k:Nat)(x:DFS):Option (List ByteArray):=runF E1 H1 k 101 s_impl_PackFS x
noncomputable def c_laws_eqWriteS(k:Nat)(x:((List DWrite)×(List DWrite))):Option Bool:=runF E1 H1 k 102 s_laws_eqWriteS x
noncomputable def c_laws_eqProcS(k:Nat)(x:((List DProc)×(List DProc))):Option Bool:=runF E1 H1 k 103 s_laws_eqProcS x
noncomputable def c_laws_eqQuota(k:Nat)(x:(DQuota×DQuota)):Option Bool:=runF E1 H1 k 104 s_laws_eqQuota x
noncomputable def c_laws_eqInode(k:Nat)(x:(DInode×DInode)):Option Bool:=runF E1 H1 k 105 s_laws_eqInode x
noncomputable def c_laws_eqIntS(k:Nat)(x:((List Int)×(List Int))):Option Bool:=runF E1 H1 k 106 s_laws_eqIntS x
noncomputable def c_laws_szWriteS(k:Nat)(x:((List DWrite)×Int)):Option Int:=runF E1 H1 k 114 s_laws_szWriteS x
noncomputable def c_laws_szProcS(k:Nat)(x:((List DProc)×Int)):Option Int:=runF E1 H1 k 115 s_laws_szProcS x
noncomputable def c_spec_IsCred(k:Nat)(x:DCred):Option Bool:=runF E1 H1 k 116 s_spec_IsCred x
noncomputable def c_spec_l16Open(k:Nat)(x:(DFS×DOpen)):Option Bool:=runF E1 H1 k 117 s_spec_l16Open x
noncomputable def c_spec_l16Busy(k:Nat)(x:DSystem):Option (List Int):=runF E1 H1 k 118 s_spec_l16Busy x
noncomputable def c_spec_l02Has(k:Nat)(x:((List Int)×Int)):Option Bool:=runF E1 H1 k 119 s_spec_l02Has x
noncomputable def c_spec_l03Read(k:Nat)(x:(DDisk×Int)):Option ByteArray:=runF E1 H1 k 120 s_spec_l03Read x
noncomputable def c_spec_GetNumber(k:Nat)(x:(ByteArray×DQuota)):Option (Int×Bool):=runF E1 H1 k 121 s_spec_GetNumber x
noncomputable def c_spec_IsTxn(k:Nat)(x:(DDisk×(List DWrite))):Option Bool:=runF E1 H1 k 122 s_spec_IsTxn x
noncomputable def c_spec_CommitSector(k:Nat)(x:(Int×(List DWrite))):Option ByteArray:=runF E1 H1 k 123 s_spec_CommitSector x
noncomputable def c_spec_UnpackFS(k:Nat)(x:(List ByteArray)):Option (DFS×Bool):=runF E1 H1 k 124 s_spec_UnpackFS x
noncomputable def c_spec_l18Sectors(k:Nat)(x:DDisk):Option (List ByteArray):=runF E1 H1 k 125 s_spec_l18Sectors x
noncomputable def c_spec_l02Texts(k:Nat)(x:((List ByteArray)×(List ByteArray))):Option Bool:=runF E1 H1 k 126 s_spec_l02Texts x
noncomputable def c_spec_SameInode(k:Nat)(x:(DInode×DInode)):Option Bool:=runF E1 H1 k 127 s_spec_SameInode x
noncomputable def c_laws_toWriteS(k:Nat)(x:(List DWrite)):Option (List DWrite):=runF E1 H1 k 128 s_laws_toWriteS x
noncomputable def c_laws_toProcS(k:Nat)(x:(List DProc)):Option (List DProc):=runF E1 H1 k 129 s_laws_toProcS x
noncomputable def c_impl_Disk_read(k:Nat)(x:((Option DDisk)×Int)):Option ByteArray:=runF E1 H1 k 130 s_impl_Disk_read x
noncomputable def c_impl_GetNumber(k:Nat)(x:(ByteArray×DQuota)):Option (Int×Bool):=runF E1 H1 k 131 s_impl_GetNumber x
noncomputable def c_impl_CommitSector(k:Nat)(x:(Int×(List DWrite))):Option ByteArray:=runF E1 H1 k 132 s_impl_CommitSector x
noncomputable def c_impl_IsTxn(k:Nat)(x:(DDisk×(List DWrite))):Option Bool:=runF E1 H1 k 133 s_impl_IsTxn x
noncomputable def c_impl_UnpackFS(k:Nat)(x:(List ByteArray)):Option (DFS×Bool):=runF E1 H1 k 134 s_impl_UnpackFS x
noncomputable def c_slices_Equal_impl_Quota_impl_Quota(k:Nat)(x:((List DQuota)×(List DQuota))):Option Bool:=runF E1 H1 k 135 s_slices_Equal_impl_Quota_impl_Quota x
noncomputable def c_impl_SameInode(k:Nat)(x:(DInode×DInode)):Option Bool:=runF E1 H1 k 137 s_impl_SameInode x
noncomputable def c_slices_Equal_string_string(k:Nat)(x:((List ByteArray)×(List ByteArray))):Option Bool:=runF E1 H1 k 138 s_slices_Equal_string_string x
noncomputable def c_spec_IsInode(k:Nat)(x:DInode):Option Bool:=runF E1 H1 k 139 s_spec_IsInode x
noncomputable def c_spec_l08Used(k:Nat)(x:DFS):Option ((List Bool)×Bool):=runF E1 H1 k 140 s_spec_l08Used x
noncomputable def c_spec_IsZeroes(k:Nat)(x:ByteArray):Option Bool:=runF E1 H1 k 141 s_spec_IsZeroes x
noncomputable def c_impl_IsInode(k:Nat)(x:DInode):Option Bool:=runF E1 H1 k 144 s_impl_IsInode x
noncomputable def c_impl_BlockOwner(k:Nat)(x:Int):Option Int:=runF E1 H1 k 145 s_impl_BlockOwner x
noncomputable def c_impl_IsZeroes(k:Nat)(x:ByteArray):Option Bool:=runF E1 H1 k 146 s_impl_IsZeroes x
noncomputable def c_laws_eqWrite(k:Nat)(x:(DWrite×DWrite)):Option Bool:=runF E1 H1 k 149 s_laws_eqWrite x
noncomputable def c_laws_szAclEntryS(k:Nat)(x:((List DOpen)×Int)):Option Int:=runF E1 H1 k 151 s_laws_szAclEntryS x
noncomputable def c_spec_l18Super(k:Nat)(x:DFS):Option ByteArray:=runF E1 H1 k 155 s_spec_l18Super x
noncomputable def c_spec_CutAll(k:Nat)(x:DerrorAddressString):Option (List ByteArray):=runF E1 H1 k 156 s_spec_CutAll x
noncomputable def c_spec_PackInode(k:Nat)(x:DInode):Option ByteArray:=runF E1 H1 k 157 s_spec_PackInode x
noncomputable def c_laws_toAclEntryS(k:Nat)(x:(List DOpen)):Option (List DOpen):=runF E1 H1 k 158 s_laws_toAclEntryS x
noncomputable def c_slices_Contains_int_int(k:Nat)(x:((List Int)×Int)):Option Bool:=runF E1 H1 k 161 s_slices_Contains_int_int x
noncomputable def c_impl_isUser(k:Nat)(x:Int):Option Bool:=runF E1 H1 k 164 s_impl_isUser x
noncomputable def c_impl_FS_super(k:Nat)(x:(Option DFS)):Option ByteArray:=runF E1 H1 k 165 s_impl_FS_super x
noncomputable def c_impl_CutAll(k:Nat)(x:DerrorAddressString):Option (List ByteArray):=runF E1 H1 k 166 s_impl_CutAll x
noncomputable def c_impl_PackInode(k:Nat)(x:DInode):Option ByteArray:=runF E1 H1 k 167 s_impl_PackInode x
noncomputable def c_laws_eqProc(k:Nat)(x:(DProc×DProc)):Option Bool:=runF E1 H1 k 168 s_laws_eqProc x
noncomputable def c_laws_eqAclEntryS(k:Nat)(x:((List DOpen)×(List DOpen))):Option Bool:=runF E1 H1 k 169 s_laws_eqAclEntryS x
noncomputable def c_laws_szWrite(k:Nat)(x:(DWrite×Int)):Option Int:=runF E1 H1 k 175 s_laws_szWrite x
noncomputable def c_laws_szProc(k:Nat)(x:(DProc×Int)):Option Int:=runF E1 H1 k 176 s_laws_szProc x
noncomputable def c_spec_l06User(k:Nat)(x:Int):Option Bool:=runF E1 H1 k 177 s_spec_l06User x
noncomputable def c_spec_l04Ok(k:Nat)(x:(List DWrite)):Option Bool:=runF E1 H1 k 178 s_spec_l04Ok x
noncomputable def c_spec_PutNumber(k:Nat)(x:DQuota):Option ByteArray:=runF E1 H1 k 179 s_spec_PutNumber x
noncomputable def c_spec_ChecksumOf(k:Nat)(x:ByteArray):Option Int:=runF E1 H1 k 180 s_spec_ChecksumOf x
noncomputable def c_spec_UnpackInode(k:Nat)(x:ByteArray):Option (DInode×Bool):=runF E1 H1 k 181 s_spec_UnpackInode x
noncomputable def c_spec_l02Same(k:Nat)(x:((List Int)×(List Int))):Option Bool:=runF E1 H1 k 182 s_spec_l02Same x
noncomputable def c_spec_l05Same(k:Nat)(x:((List DOpen)×(List DOpen))):Option Bool:=runF E1 H1 k 183 s_spec_l05Same x
noncomputable def c_laws_toWrite(k:Nat)(x:DWrite):Option DWrite:=runF E1 H1 k 184 s_laws_toWrite x
noncomputable def c_laws_toProc(k:Nat)(x:DProc):Option DProc:=runF E1 H1 k 185 s_laws_toProc x
noncomputable def c_impl_listed(k:Nat)(x:(List DWrite)):Option Bool:=runF E1 H1 k 186 s_impl_listed x
noncomputable def c_impl_PutNumber(k:Nat)(x:DQuota):Option ByteArray:=runF E1 H1 k 187 s_impl_PutNumber x
noncomputable def c_impl_PadTo(k:Nat)(x:DerrorAddressString):Option ByteArray:=runF E1 H1 k 188 s_impl_PadTo x
noncomputable def c_impl_ChecksumOf(k:Nat)(x:ByteArray):Option Int:=runF E1 H1 k 189 s_impl_ChecksumOf x
noncomputable def c_impl_UnpackInode(k:Nat)(x:ByteArray):Option (DInode×Bool):=runF E1 H1 k 190 s_impl_UnpackInode x
noncomputable def c_impl_Join(k:Nat)(x:((List ByteArray)×ByteArray)):Option ByteArray:=runF E1 H1 k 191 s_impl_Join x
noncomputable def c_slices_Clone_string_string(k:Nat)(x:(List ByteArray)):Option (List ByteArray):=runF E1 H1 k 192 s_slices_Clone_string_string x
noncomputable def c_slices_Equal_int_int(k:Nat)(x:((List Int)×(List Int))):Option Bool:=runF E1 H1 k 193 s_slices_Equal_int_int x
noncomputable def c_slices_Equal_impl_AclEntry_impl_AclEntry(k:Nat)(x:((List DOpen)×(List DOpen))):Option Bool:=runF E1 H1 k 194 s_slices_Equal_impl_AclEntry_impl_AclEntry x
noncomputable def c_spec_l06Mode(k:Nat)(x:Int):Option Bool:=runF E1 H1 k 195 s_spec_l06Mode x
noncomputable def c_spec_BlocksNeeded(k:Nat)(x:Int):Option Int:=runF E1 H1 k 196 s_spec_BlocksNeeded x
noncomputable def c_spec_IsAcl(k:Nat)(x:(List DOpen)):Option Bool:=runF E1 H1 k 197 s_spec_IsAcl x
noncomputable def c_spec_BlockOwner(k:Nat)(x:Int):Option Int:=runF E1 H1 k 198 s_spec_BlockOwner x
noncomputable def c_impl_isMode(k:Nat)(x:Int):Option Bool:=runF E1 H1 k 201 s_impl_isMode x
noncomputable def c_impl_BlocksNeeded(k:Nat)(x:Int):Option Int:=runF E1 H1 k 202 s_impl_BlocksNeeded x
noncomputable def c_impl_IsAcl(k:Nat)(x:(List DOpen)):Option Bool:=runF E1 H1 k 203 s_impl_IsAcl x
noncomputable def c_spec_PackAcl(k:Nat)(x:(List DOpen)):Option ByteArray:=runF E1 H1 k 211 s_spec_PackAcl x
noncomputable def c_laws_toAclEntry(k:Nat)(x:DOpen):Option DOpen:=runF E1 H1 k 212 s_laws_toAclEntry x
noncomputable def c_slices_Index_int_int(k:Nat)(x:((List Int)×Int)):Option Int:=runF E1 H1 k 214 s_slices_Index_int_int x
noncomputable def c_impl_PackAcl(k:Nat)(x:(List DOpen)):Option ByteArray:=runF E1 H1 k 216 s_impl_PackAcl x
noncomputable def c_laws_eqOpenS(k:Nat)(x:((List DOpen)×(List DOpen))):Option Bool:=runF E1 H1 k 217 s_laws_eqOpenS x
noncomputable def c_laws_eqAclEntry(k:Nat)(x:(DOpen×DOpen)):Option Bool:=runF E1 H1 k 218 s_laws_eqAclEntry x
noncomputable def c_laws_szOpenS(k:Nat)(x:((List DOpen)×Int)):Option Int:=runF E1 H1 k 220 s_laws_szOpenS x
noncomputable def c_spec_UnpackAcl(k:Nat)(x:ByteArray):Option ((List DOpen)×Bool):=runF E1 H1 k 221 s_spec_UnpackAcl x
noncomputable def c_laws_toOpenS(k:Nat)(x:(List DOpen)):Option (List DOpen):=runF E1 H1 k 222 s_laws_toOpenS x
noncomputable def c_strings_Repeat(k:Nat)(x:DerrorAddressString):Option ByteArray:=runF E1 H1 k 223 s_strings_Repeat x
noncomputable def c_impl_UnpackAcl(k:Nat)(x:ByteArray):Option ((List DOpen)×Bool):=runF E1 H1 k 225 s_impl_UnpackAcl x
noncomputable def c_strings_Join(k:Nat)(x:((List ByteArray)×ByteArray)):Option ByteArray:=runF E1 H1 k 226 s_strings_Join x
noncomputable def c_spec_l05Entry(k:Nat)(x:DOpen):Option Bool:=runF E1 H1 k 227 s_spec_l05Entry x
noncomputable def c_cmp_Or_int(k:Nat)(x:(List Int)):Option Int:=runF E1 H1 k 228 s_cmp_Or_int x
noncomputable def c_cmp_Compare_int(k:Nat)(x:DQuota):Option Int:=runF E1 H1 k 229 s_cmp_Compare_int x
noncomputable def c_laws_eqOpen(k:Nat)(x:(DOpen×DOpen)):Option Bool:=runF E1 H1 k 232 s_laws_eqOpen x
noncomputable def c_laws_toOpen(k:Nat)(x:DOpen):Option DOpen:=runF E1 H1 k 233 s_laws_toOpen x
noncomputable def c_cmp_isNaN_int(k:Nat)(x:Int):Option Bool:=runF E1 H1 k 239 s_cmp_isNaN_int x
theorem c_slices_Repeat_string_string_run(k:Nat)(x):c_slices_Repeat_string_string (k+1) x=ext_slices_Repeat_string_string x:=by kernel_rfl
theorem c_slices_Clone_string_string_run(k:Nat)(x):c_slices_Clone_string_string (k+1) x=ext_slices_Clone_string_string x:=by kernel_rfl
theorem c_strings_Repeat_run(k:Nat)(x):c_strings_Repeat (k+1) x=ext_strings_Repeat x:=by kernel_rfl
theorem c_strings_Join_run(k:Nat)(x):c_strings_Join (k+1) x=ext_strings_Join x:=by kernel_rfl
end Go.Proofs.YtmmgfgfkkpeedaaGreat
