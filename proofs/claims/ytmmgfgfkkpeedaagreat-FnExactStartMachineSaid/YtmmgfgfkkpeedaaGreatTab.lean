/- The tables, the residual functions and lemmas of this seat: parts of the proof of the law; conditions: those that each names. -/
import Derived.Test.YtmmgfgfkkpeedaaGreatEng5
import Derived.KernelRfl
import Derived.Test.YtmmgfgfkkpeedaaGreatProg
set_option maxRecDepth 100000
namespace Go.Proofs.YtmmgfgfkkpeedaaGreat
open Go.Eng
abbrev DQuota:Type:=(Int×Int)
abbrev DerrorAddressString:Type:=(ByteArray×Int)
abbrev DWrite:Type:=(Int×ByteArray)
abbrev DOpen:Type:=(Int×DQuota)
abbrev DCred:Type:=(Int×(Int×(List Int)))
abbrev DStep:Type:=(Bool×DWrite)
abbrev DboundsError:Type:=(Int×(Int×(Bool×Int)))
abbrev DDisk:Type:=((List ByteArray)×(List DWrite))
abbrev DProc:Type:=(DCred×(List DOpen))
abbrev DInode:Type:=(Int×(Int×(Int×(Int×(Int×(Int×(Int×((List Int)×((List DOpen)×(List DOpen))))))))))
abbrev DFS:Type:=(Int×((List DQuota)×((List DInode)×(List ByteArray))))
abbrev DSystem:Type:=(DFS×(List DProc))
abbrev DMachine:Type:=(DDisk×(Int×DSystem))
abbrev DConsole:Type:=(DMachine×Int)
abbrev TerrorAddressStringk:Ty:=(.pair .str (.int .u64))
abbrev TWritek:Ty:=(.pair (.int .i64) .str)
abbrev TQuotak:Ty:=(.pair (.int .i64) (.int .i64))
abbrev TStepk:Ty:=(.pair .bool TWritek)
abbrev TOpenk:Ty:=(.pair (.int .i64) TQuotak)
abbrev TDisko:Ty:=(.pair (.list true .str) (.list true TWritek))
abbrev TboundsErrork:Ty:=(.pair (.int .i64) (.pair (.int .i64) (.pair .bool (.int .u8))))
abbrev TCredo:Ty:=(.pair (.int .i64) (.pair (.int .i64) (.list true (.int .i64))))
abbrev TDiskk:Ty:=(.pair (.list false .str) (.list false TWritek))
abbrev TCredk:Ty:=(.pair (.int .i64) (.pair (.int .i64) (.list false (.int .i64))))
abbrev TProco:Ty:=(.pair TCredo (.list true TOpenk))
abbrev TProck:Ty:=(.pair TCredk (.list false TOpenk))
abbrev TInodeo:Ty:=(.pair (.int .i64) (.pair (.int .i64) (.pair (.int .i64) (.pair (.int .i64) (.pair (.int .i64) (.pair (.int .i64) (.pair (.int .i64) (.pair (.list true (.int .i64)) (.pair (.list true TOpenk) (.list true TOpenk))))))))))
abbrev TInodek:Ty:=(.pair (.int .i64) (.pair (.int .i64) (.pair (.int .i64) (.pair (.int .i64) (.pair (.int .i64) (.pair (.int .i64) (.pair (.int .i64) (.pair (.list false (.int .i64)) (.pair (.list false TOpenk) (.list false TOpenk))))))))))
abbrev TFSo:Ty:=(.pair (.int .i64) (.pair (.list true TQuotak) (.pair (.list true TInodeo) (.list true .str))))
abbrev TFSk:Ty:=(.pair (.int .i64) (.pair (.list false TQuotak) (.pair (.list false TInodek) (.list false .str))))
abbrev TSystemo:Ty:=(.pair TFSo (.list true TProco))
abbrev TSystemk:Ty:=(.pair TFSk (.list false TProck))
abbrev TMachineo:Ty:=(.pair TDisko (.pair (.int .i64) TSystemo))
abbrev TMachinek:Ty:=(.pair TDiskk (.pair (.int .i64) TSystemk))
abbrev TConsoleo:Ty:=(.pair TMachineo (.int .i64))
abbrev TConsolek:Ty:=(.pair TMachinek (.int .i64))
abbrev s_laws_FnExactStartMachine:Sig:=⟨[.val TFSk,.val (.list false TCredk)],[.bool],none⟩
abbrev s_laws_szFS:Sig:=⟨[.val TFSk,.val (.int .i64)],[(.int .i64)],none⟩
abbrev s_laws_szCredS:Sig:=⟨[.val (.list false TCredk),.val (.int .i64)],[(.int .i64)],none⟩
abbrev s_spec_StartMachine:Sig:=⟨[.val TFSk,.val (.list false TCredk)],[TMachineo,.bool],none⟩
abbrev s_laws_toFS:Sig:=⟨[.val TFSk],[TFSo],none⟩
abbrev s_laws_toCredS:Sig:=⟨[.val (.list false TCredk)],[(.list true TCredo)],none⟩
abbrev s_impl_StartMachine:Sig:=⟨[.val TFSk,.val (.list false TCredk)],[TMachineo,.bool],none⟩
abbrev s_laws_eqMachine:Sig:=⟨[.val TMachinek,.val TMachinek],[.bool],none⟩
abbrev s_laws_eqFS:Sig:=⟨[.val TFSk,.val TFSk],[.bool],none⟩
abbrev s_laws_eqCredS:Sig:=⟨[.val (.list false TCredk),.val (.list false TCredk)],[.bool],none⟩
abbrev s_laws_markCredS:Sig:=⟨[.val (.int .i64)],[(.int .i64)],some (false,(.list true TCredo))⟩
abbrev s_laws_heldMachine:Sig:=⟨[.val TMachinek,.val (.int .i64)],[(.int .i64)],none⟩
abbrev s_laws_szQuotaS:Sig:=⟨[.val (.list false TQuotak),.val (.int .i64)],[(.int .i64)],none⟩
abbrev s_laws_szInodeS:Sig:=⟨[.val (.list false TInodek),.val (.int .i64)],[(.int .i64)],none⟩
abbrev s_laws_szStringS:Sig:=⟨[.val (.list false .str),.val (.int .i64)],[(.int .i64)],none⟩
abbrev s_laws_szCred:Sig:=⟨[.val TCredk,.val (.int .i64)],[(.int .i64)],none⟩
abbrev s_spec_NewSystem:Sig:=⟨[.val TFSk,.val (.list false TCredk)],[TSystemo],none⟩
abbrev s_spec_FormatFS:Sig:=⟨[.val TFSk],[TDisko],none⟩
abbrev s_laws_toQuotaS:Sig:=⟨[.val (.list false TQuotak)],[(.list true TQuotak)],none⟩
abbrev s_laws_toInodeS:Sig:=⟨[.val (.list false TInodek)],[(.list true TInodeo)],none⟩
abbrev s_laws_toStringS:Sig:=⟨[.val (.list false .str)],[(.list true .str)],none⟩
abbrev s_laws_toCred:Sig:=⟨[.val TCredk],[TCredo],none⟩
abbrev s_impl_NewSystem:Sig:=⟨[.val TFSk,.val (.list false TCredk)],[TSystemo],none⟩
abbrev s_impl_IsSystem:Sig:=⟨[.val TSystemk],[.bool],none⟩
abbrev s_impl_FormatFS:Sig:=⟨[.val TFSk],[TDisko],none⟩
abbrev s_laws_eqDisk:Sig:=⟨[.val TDiskk,.val TDiskk],[.bool],none⟩
abbrev s_laws_eqSystem:Sig:=⟨[.val TSystemk,.val TSystemk],[.bool],none⟩
abbrev s_laws_eqQuotaS:Sig:=⟨[.val (.list false TQuotak),.val (.list false TQuotak)],[.bool],none⟩
abbrev s_laws_eqInodeS:Sig:=⟨[.val (.list false TInodek),.val (.list false TInodek)],[.bool],none⟩
abbrev s_laws_eqStringS:Sig:=⟨[.val (.list false .str),.val (.list false .str)],[.bool],none⟩
abbrev s_laws_eqCred:Sig:=⟨[.val TCredk,.val TCredk],[.bool],none⟩
abbrev s_laws_markQuotaS:Sig:=⟨[.val (.int .i64)],[(.int .i64)],some (false,(.list true TQuotak))⟩
abbrev s_laws_markInodeS:Sig:=⟨[.val (.int .i64)],[(.int .i64)],some (false,(.list true TInodeo))⟩
abbrev s_laws_markStringS:Sig:=⟨[.val (.int .i64)],[(.int .i64)],some (false,(.list true .str))⟩
abbrev s_laws_markIntS:Sig:=⟨[.val (.int .i64)],[(.int .i64)],some (false,(.list true (.int .i64)))⟩
abbrev s_laws_heldDisk:Sig:=⟨[.val TDiskk,.val (.int .i64)],[(.int .i64)],none⟩
abbrev s_laws_heldSystem:Sig:=⟨[.val TSystemk,.val (.int .i64)],[(.int .i64)],none⟩
abbrev s_spec_IsSystem:Sig:=⟨[.val TSystemk],[.bool],none⟩
abbrev s_spec_l01In:Sig:=⟨[.val (.int .i64),.val (.int .i64),.val (.int .i64)],[.bool],none⟩
abbrev s_spec_IsFS:Sig:=⟨[.val TFSk],[.bool],none⟩
abbrev s_impl_IsFS:Sig:=⟨[.val TFSk],[.bool],none⟩
abbrev s_laws_markText:Sig:=⟨[.val (.int .i64)],[.str],none⟩
abbrev s_spec_PadTo:Sig:=⟨[.val .str,.val (.int .i64)],[.str],none⟩
abbrev s_slices_Clone_impl_Quota_impl_Quota:Sig:=⟨[.val (.list false TQuotak)],[(.list true TQuotak)],none⟩
abbrev s_slices_Repeat_string_string:Sig:=⟨[.val (.list false .str),.val (.int .i64)],[(.list true .str)],none⟩
abbrev s_impl_zeros:Sig:=⟨[.val (.int .i64)],[.str],none⟩
abbrev s_laws_szInode:Sig:=⟨[.val TInodek,.val (.int .i64)],[(.int .i64)],none⟩
abbrev s_laws_szIntS:Sig:=⟨[.val (.list false (.int .i64)),.val (.int .i64)],[(.int .i64)],none⟩
abbrev s_spec_DropOrphans:Sig:=⟨[.val TFSk,.val (.list false (.int .i64))],[TFSo],none⟩
abbrev s_spec_l06Copy:Sig:=⟨[.val TCredk],[TCredo],none⟩
abbrev s_spec_l18Pack:Sig:=⟨[.val TFSk],[(.list true .str)],none⟩
abbrev s_laws_toQuota:Sig:=⟨[.val TQuotak],[TQuotak],none⟩
abbrev s_laws_toInode:Sig:=⟨[.val TInodek],[TInodeo],none⟩
abbrev s_laws_toIntS:Sig:=⟨[.val (.list false (.int .i64))],[(.list true (.int .i64))],none⟩
abbrev s_impl_DropOrphans:Sig:=⟨[.val TFSk,.val (.list false (.int .i64))],[TFSo],none⟩
abbrev s_impl_copyCred:Sig:=⟨[.val TCredk],[TCredo],none⟩
abbrev s_impl_IsCred:Sig:=⟨[.val TCredk],[.bool],none⟩
abbrev s_impl_FS_has:Sig:=⟨[.val (.ptr TFSk),.val (.int .i64)],[.bool],none⟩
abbrev s_impl_FS_isDir:Sig:=⟨[.val (.ptr TFSk),.val (.int .i64)],[.bool],none⟩
abbrev s_impl_System_isOpen:Sig:=⟨[.val (.ptr TSystemk),.val (.int .i64)],[.bool],none⟩
abbrev s_impl_PackFS:Sig:=⟨[.val TFSk],[(.list true .str)],none⟩
abbrev s_laws_eqWriteS:Sig:=⟨[.val (.list false TWritek),.val (.list false TWritek)],[.bool],none⟩
abbrev s_laws_eqProcS:Sig:=⟨[.val (.list false TProck),.val (.list false TProck)],[.bool],none⟩
abbrev s_laws_eqQuota:Sig:=⟨[.val TQuotak,.val TQuotak],[.bool],none⟩
abbrev s_laws_eqInode:Sig:=⟨[.val TInodek,.val TInodek],[.bool],none⟩
abbrev s_laws_eqIntS:Sig:=⟨[.val (.list false (.int .i64)),.val (.list false (.int .i64))],[.bool],none⟩
abbrev s_laws_markAclEntryS:Sig:=⟨[.val (.int .i64)],[(.int .i64)],some (false,(.list true TOpenk))⟩
abbrev s_laws_markWriteS:Sig:=⟨[.val (.int .i64)],[(.int .i64)],some (false,(.list true TWritek))⟩
abbrev s_laws_markProcS:Sig:=⟨[.val (.int .i64)],[(.int .i64)],some (false,(.list true TProco))⟩
abbrev s_laws_heldStringS:Sig:=⟨[.val (.list false .str),.val (.int .i64)],[(.int .i64)],none⟩
abbrev s_laws_heldWriteS:Sig:=⟨[.val (.list false TWritek),.val (.int .i64)],[(.int .i64)],none⟩
abbrev s_laws_heldFS:Sig:=⟨[.val TFSk,.val (.int .i64)],[(.int .i64)],none⟩
abbrev s_laws_heldProcS:Sig:=⟨[.val (.list false TProck),.val (.int .i64)],[(.int .i64)],none⟩
abbrev s_spec_IsCred:Sig:=⟨[.val TCredk],[.bool],none⟩
abbrev s_spec_l16Open:Sig:=⟨[.val TFSk,.val TOpenk],[.bool],none⟩
abbrev s_spec_l16Busy:Sig:=⟨[.val TSystemk],[(.list true (.int .i64))],none⟩
abbrev s_spec_l02Has:Sig:=⟨[.val (.list false (.int .i64)),.val (.int .i64)],[.bool],none⟩
abbrev s_spec_SameInode:Sig:=⟨[.val TInodek,.val TInodek],[.bool],none⟩
abbrev s_impl_SameInode:Sig:=⟨[.val TInodek,.val TInodek],[.bool],none⟩
abbrev s_spec_IsInode:Sig:=⟨[.val TInodek],[.bool],none⟩
abbrev s_spec_l08Used:Sig:=⟨[.val TFSk],[(.list true .bool),.bool],none⟩
abbrev s_spec_IsZeroes:Sig:=⟨[.val .str],[.bool],none⟩
abbrev s_impl_IsInode:Sig:=⟨[.val TInodek],[.bool],none⟩
abbrev s_impl_BlockOwner:Sig:=⟨[.val (.int .i64)],[(.int .i64)],none⟩
abbrev s_impl_IsZeroes:Sig:=⟨[.val .str],[.bool],none⟩
abbrev s_laws_eqWrite:Sig:=⟨[.val TWritek,.val TWritek],[.bool],none⟩
abbrev s_laws_szAclEntryS:Sig:=⟨[.val (.list false TOpenk),.val (.int .i64)],[(.int .i64)],none⟩
abbrev s_spec_l08Copy:Sig:=⟨[.val TFSk],[TFSo],none⟩
abbrev s_spec_OrphansOf:Sig:=⟨[.val TFSk],[(.list true (.int .i64))],none⟩
abbrev s_spec_l09Free:Sig:=⟨[.val TFSk,.val (.int .i64)],[TFSo],none⟩
abbrev s_spec_l18Super:Sig:=⟨[.val TFSk],[.str],none⟩
abbrev s_spec_CutAll:Sig:=⟨[.val .str,.val (.int .i64)],[(.list true .str)],none⟩
abbrev s_spec_PackInode:Sig:=⟨[.val TInodek],[.str],none⟩
abbrev s_laws_toAclEntryS:Sig:=⟨[.val (.list false TOpenk)],[(.list true TOpenk)],none⟩
abbrev s_impl_copyFS:Sig:=⟨[.val TFSk],[TFSo],none⟩
abbrev s_impl_OrphansOf:Sig:=⟨[.val TFSk],[(.list true (.int .i64))],none⟩
abbrev s_slices_Contains_int_int:Sig:=⟨[.val (.list false (.int .i64)),.val (.int .i64)],[.bool],none⟩
abbrev s_impl_FS_free:Sig:=⟨[.val (.int .i64)],[(.int .i64)],some (true,TFSo)⟩
abbrev s_slices_Clone_int_int:Sig:=⟨[.val (.list false (.int .i64))],[(.list true (.int .i64))],none⟩
abbrev s_impl_isUser:Sig:=⟨[.val (.int .i64)],[.bool],none⟩
abbrev s_impl_FS_super:Sig:=⟨[.val (.ptr TFSk)],[.str],none⟩
abbrev s_impl_CutAll:Sig:=⟨[.val .str,.val (.int .i64)],[(.list true .str)],none⟩
abbrev s_impl_PackInode:Sig:=⟨[.val TInodek],[.str],none⟩
abbrev s_laws_eqProc:Sig:=⟨[.val TProck,.val TProck],[.bool],none⟩
abbrev s_laws_eqAclEntryS:Sig:=⟨[.val (.list false TOpenk),.val (.list false TOpenk)],[.bool],none⟩
abbrev s_laws_markOpenS:Sig:=⟨[.val (.int .i64)],[(.int .i64)],some (false,(.list true TOpenk))⟩
abbrev s_laws_heldQuotaS:Sig:=⟨[.val (.list false TQuotak),.val (.int .i64)],[(.int .i64)],none⟩
abbrev s_laws_heldInodeS:Sig:=⟨[.val (.list false TInodek),.val (.int .i64)],[(.int .i64)],none⟩
abbrev s_laws_heldIntS:Sig:=⟨[.val (.list false (.int .i64)),.val (.int .i64)],[(.int .i64)],none⟩
abbrev s_laws_heldOpenS:Sig:=⟨[.val (.list false TOpenk),.val (.int .i64)],[(.int .i64)],none⟩
abbrev s_spec_l06User:Sig:=⟨[.val (.int .i64)],[.bool],none⟩
abbrev s_spec_PutNumber:Sig:=⟨[.val (.int .i64),.val (.int .i64)],[.str],none⟩
abbrev s_spec_l02Same:Sig:=⟨[.val (.list false (.int .i64)),.val (.list false (.int .i64))],[.bool],none⟩
abbrev s_spec_l05Same:Sig:=⟨[.val (.list false TOpenk),.val (.list false TOpenk)],[.bool],none⟩
abbrev s_impl_PutNumber:Sig:=⟨[.val (.int .i64),.val (.int .i64)],[.str],none⟩
abbrev s_impl_PadTo:Sig:=⟨[.val .str,.val (.int .i64)],[.str],none⟩
abbrev s_slices_Clone_string_string:Sig:=⟨[.val (.list false .str)],[(.list true .str)],none⟩
abbrev s_slices_Equal_int_int:Sig:=⟨[.val (.list false (.int .i64)),.val (.list false (.int .i64))],[.bool],none⟩
abbrev s_slices_Equal_impl_AclEntry_impl_AclEntry:Sig:=⟨[.val (.list false TOpenk),.val (.list false TOpenk)],[.bool],none⟩
abbrev s_spec_l06Mode:Sig:=⟨[.val (.int .i64)],[.bool],none⟩
abbrev s_spec_BlocksNeeded:Sig:=⟨[.val (.int .i64)],[(.int .i64)],none⟩
abbrev s_spec_IsAcl:Sig:=⟨[.val (.list false TOpenk)],[.bool],none⟩
abbrev s_spec_BlockOwner:Sig:=⟨[.val (.int .i64)],[(.int .i64)],none⟩
abbrev s_impl_isMode:Sig:=⟨[.val (.int .i64)],[.bool],none⟩
abbrev s_impl_BlocksNeeded:Sig:=⟨[.val (.int .i64)],[(.int .i64)],none⟩
abbrev s_impl_IsAcl:Sig:=⟨[.val (.list false TOpenk)],[.bool],none⟩
abbrev s_spec_l07Copy:Sig:=⟨[.val TInodek],[TInodeo],none⟩
abbrev s_spec_l09Resize:Sig:=⟨[.val TFSk,.val (.int .i64),.val (.int .i64)],[TFSo],none⟩
abbrev s_spec_PackAcl:Sig:=⟨[.val (.list false TOpenk)],[.str],none⟩
abbrev s_laws_toAclEntry:Sig:=⟨[.val TOpenk],[TOpenk],none⟩
abbrev s_impl_copyInode:Sig:=⟨[.val TInodek],[TInodeo],none⟩
abbrev s_slices_Index_int_int:Sig:=⟨[.val (.list false (.int .i64)),.val (.int .i64)],[(.int .i64)],none⟩
abbrev s_impl_UsedBlocks:Sig:=⟨[.val TInodek],[(.list true (.int .i64))],none⟩
abbrev s_impl_PackAcl:Sig:=⟨[.val (.list false TOpenk)],[.str],none⟩
abbrev s_laws_eqOpenS:Sig:=⟨[.val (.list false TOpenk),.val (.list false TOpenk)],[.bool],none⟩
abbrev s_laws_eqAclEntry:Sig:=⟨[.val TOpenk,.val TOpenk],[.bool],none⟩
abbrev s_laws_heldAclEntryS:Sig:=⟨[.val (.list false TOpenk),.val (.int .i64)],[(.int .i64)],none⟩
abbrev s_strings_Repeat:Sig:=⟨[.val .str,.val (.int .i64)],[.str],none⟩
abbrev s_spec_l05Entry:Sig:=⟨[.val TOpenk],[.bool],none⟩
abbrev s_cmp_Or_int:Sig:=⟨[.val (.list false (.int .i64))],[(.int .i64)],none⟩
abbrev s_cmp_Compare_int:Sig:=⟨[.val (.int .i64),.val (.int .i64)],[(.int .i64)],none⟩
abbrev s_spec_l05Copy:Sig:=⟨[.val (.list false TOpenk)],[(.list true TOpenk)],none⟩
abbrev s_slices_Clone_impl_AclEntry_impl_AclEntry:Sig:=⟨[.val (.list false TOpenk)],[(.list true TOpenk)],none⟩
abbrev s_laws_eqOpen:Sig:=⟨[.val TOpenk,.val TOpenk],[.bool],none⟩
abbrev s_cmp_isNaN_int:Sig:=⟨[.val (.int .i64)],[.bool],none⟩
abbrev ext_slices_Clone_impl_Quota_impl_Quota:(List DQuota)→Option (List DQuota):=ext_Clone TQuotak 16
abbrev ext_slices_Clone_impl_AclEntry_impl_AclEntry:(List DOpen)→Option (List DOpen):=ext_Clone TOpenk 24
noncomputable def exts:List ExtE:=[⟨84,s_slices_Clone_impl_Quota_impl_Quota,ext_slices_Clone_impl_Quota_impl_Quota⟩,⟨85,s_slices_Repeat_string_string,ext_slices_Repeat_string_string⟩,⟨163,s_slices_Clone_int_int,ext_slices_Clone_int_int⟩,⟨192,s_slices_Clone_string_string,ext_slices_Clone_string_string⟩,⟨223,s_strings_Repeat,ext_strings_Repeat⟩,⟨231,s_slices_Clone_impl_AclEntry_impl_AclEntry,ext_slices_Clone_impl_AclEntry_impl_AclEntry⟩]
noncomputable def tab:Tab:={
 ty:=[(2,(.int .i64)),(3,(.int .i64)),(4,.bool),(5,(.int .u8)),(9,.str),(22,(.list false .str)),(23,(.list false TWritek)),(25,TDiskk),(26,(.list false TQuotak)),(27,(.list false TInodek)),(29,TFSk),(30,(.list false TProck)),(32,TSystemk),(34,TMachinek),(41,(.list false TQuotak)),(42,(.list false TInodek)),(44,TFSk),(45,(.list false TCredk)),(51,(.list false TCredk)),(78,TQuotak),(79,(.list false (.int .i64))),(81,TCredk),(87,TCredk),(121,TWritek),(125,(.list false TOpenk)),(127,TInodek),(132,(.list false TOpenk)),(134,TInodek),(137,(.list false TOpenk)),(139,TProck),(142,TQuotak),(147,TOpenk),(173,(.list false .bool)),(179,(.arr 56 .bool)),(183,(.list false (.int .u8))),(184,(.int .u64)),(195,(.ptr TFSk)),(201,TOpenk),(232,TOpenk)],
 nf:=[(25,2),(29,4),(32,2),(34,3),(44,4),(78,2),(81,3),(87,3),(121,2),(127,10),(134,10),(139,2),(142,2),(147,3),(201,3),(232,3)],
 el:=[(22,9,16),(26,78,16),(27,127,128),(30,139,64),(51,81,40),(79,3,8),(125,201,24),(137,147,24),(173,4,1),(183,5,1)],
 fnT:=[1],
 eqs:=[78,121,142,147,201,232],
 sig:=[(4,s_laws_FnExactStartMachine),(12,s_laws_szFS),(13,s_laws_szCredS),(14,s_spec_StartMachine),(15,s_laws_toFS),(16,s_laws_toCredS),(17,s_impl_StartMachine),(18,s_laws_eqMachine),(19,s_laws_eqFS),(20,s_laws_eqCredS),(22,s_laws_markCredS),(24,s_laws_heldMachine),(36,s_laws_szQuotaS),(37,s_laws_szInodeS),(38,s_laws_szStringS),(39,s_laws_szCred),(40,s_spec_NewSystem),(41,s_spec_FormatFS),(42,s_laws_toQuotaS),(43,s_laws_toInodeS),(44,s_laws_toStringS),(45,s_laws_toCred),(46,s_impl_NewSystem),(47,s_impl_IsSystem),(48,s_impl_FormatFS),(49,s_laws_eqDisk),(50,s_laws_eqSystem),(51,s_laws_eqQuotaS),(52,s_laws_eqInodeS),(53,s_laws_eqStringS),(54,s_laws_eqCred),(55,s_laws_markQuotaS),(56,s_laws_markInodeS),(57,s_laws_markStringS),(58,s_laws_markIntS),(61,s_laws_heldDisk),(62,s_laws_heldSystem),(65,s_spec_IsSystem),(66,s_spec_l01In),(77,s_spec_IsFS),(79,s_impl_IsFS),(82,s_laws_markText),(83,s_spec_PadTo),(84,s_slices_Clone_impl_Quota_impl_Quota),(85,s_slices_Repeat_string_string),(86,s_impl_zeros),(87,s_laws_szInode),(88,s_laws_szIntS),(89,s_spec_DropOrphans),(90,s_spec_l06Copy),(91,s_spec_l18Pack),(92,s_laws_toQuota),(93,s_laws_toInode),(94,s_laws_toIntS),(95,s_impl_DropOrphans),(96,s_impl_copyCred),(97,s_impl_IsCred),(98,s_impl_FS_has),(99,s_impl_FS_isDir),(100,s_impl_System_isOpen),(101,s_impl_PackFS),(102,s_laws_eqWriteS),(103,s_laws_eqProcS),(104,s_laws_eqQuota),(105,s_laws_eqInode),(106,s_laws_eqIntS),(107,s_laws_markAclEntryS),(108,s_laws_markWriteS),(109,s_laws_markProcS),(110,s_laws_heldStringS),(111,s_laws_heldWriteS),(112,s_laws_heldFS),(113,s_laws_heldProcS),(116,s_spec_IsCred),(117,s_spec_l16Open),(118,s_spec_l16Busy),(119,s_spec_l02Has),(127,s_spec_SameInode),(137,s_impl_SameInode),(139,s_spec_IsInode),(140,s_spec_l08Used),(141,s_spec_IsZeroes),(144,s_impl_IsInode),(145,s_impl_BlockOwner),(146,s_impl_IsZeroes),(149,s_laws_eqWrite),(151,s_laws_szAclEntryS),(152,s_spec_l08Copy),(153,s_spec_OrphansOf),(154,s_spec_l09Free),(155,s_spec_l18Super),(156,s_spec_CutAll),(157,s_spec_PackInode),(158,s_laws_toAclEntryS),(159,s_impl_copyFS),(160,s_impl_OrphansOf),(161,s_slices_Contains_int_int),(162,s_impl_FS_free),(163,s_slices_Clone_int_int),(164,s_impl_isUser),(165,s_impl_FS_super),(166,s_impl_CutAll),(167,s_impl_PackInode),(168,s_laws_eqProc),(169,s_laws_eqAclEntryS),(170,s_laws_markOpenS),(171,s_laws_heldQuotaS),(172,s_laws_heldInodeS),(173,s_laws_heldIntS),(174,s_laws_heldOpenS),(177,s_spec_l06User),(179,s_spec_PutNumber),(182,s_spec_l02Same),(183,s_spec_l05Same),(187,s_impl_PutNumber),(188,s_impl_PadTo),(192,s_slices_Clone_string_string),(193,s_slices_Equal_int_int),(194,s_slices_Equal_impl_AclEntry_impl_AclEntry),(195,s_spec_l06Mode),(196,s_spec_BlocksNeeded),(197,s_spec_IsAcl),(198,s_spec_BlockOwner),(201,s_impl_isMode),(202,s_impl_BlocksNeeded),(203,s_impl_IsAcl),(209,s_spec_l07Copy),(210,s_spec_l09Resize),(211,s_spec_PackAcl),(212,s_laws_toAclEntry),(213,s_impl_copyInode),(214,s_slices_Index_int_int),(215,s_impl_UsedBlocks),(216,s_impl_PackAcl),(217,s_laws_eqOpenS),(218,s_laws_eqAclEntry),(219,s_laws_heldAclEntryS),(223,s_strings_Repeat),(227,s_spec_l05Entry),(228,s_cmp_Or_int),(229,s_cmp_Compare_int),(230,s_spec_l05Copy),(231,s_slices_Clone_impl_AclEntry_impl_AclEntry),(232,s_laws_eqOpen),(239,s_cmp_isNaN_int)],
 body:=[(4,Tryz.f4),(12,Tryz.f12),(13,Tryz.f13),(14,Tryz.f14),(15,Tryz.f15),(16,Tryz.f16),(17,Tryz.f17),(18,Tryz.f18),(19,Tryz.f19),(20,Tryz.f20),(21,Tryz.f21),(22,Tryz.f22),(23,Tryz.f23),(24,Tryz.f24),(36,Tryz.f36),(37,Tryz.f37),(38,Tryz.f38),(39,Tryz.f39),(40,Tryz.f40),(41,Tryz.f41),(42,Tryz.f42),(43,Tryz.f43),(44,Tryz.f44),(45,Tryz.f45),(46,Tryz.f46),(47,Tryz.f47),(48,Tryz.f48),(49,Tryz.f49),(50,Tryz.f50),(51,Tryz.f51),(52,Tryz.f52),(53,Tryz.f53),(54,Tryz.f54),(55,Tryz.f55),(56,Tryz.f56),(57,Tryz.f57),(58,Tryz.f58),(59,Tryz.f59),(60,Tryz.f60),(61,Tryz.f61),(62,Tryz.f62),(65,Tryz.f65),(66,Tryz.f66),(77,Tryz.f77),(79,Tryz.f79),(82,Tryz.f82),(83,Tryz.f83),(86,Tryz.f86),(87,Tryz.f87),(88,Tryz.f88),(89,Tryz.f89),(90,Tryz.f90),(91,Tryz.f91),(92,Tryz.f92),(93,Tryz.f93),(94,Tryz.f94),(95,Tryz.f95),(96,Tryz.f96),(97,Tryz.f97),(98,Tryz.f98),(99,Tryz.f99),(100,Tryz.f100),(101,Tryz.f101),(102,Tryz.f102),(103,Tryz.f103),(104,Tryz.f104),(105,Tryz.f105),(106,Tryz.f106),(107,Tryz.f107),(108,Tryz.f108),(109,Tryz.f109),(110,Tryz.f110),(111,Tryz.f111),(112,Tryz.f112),(113,Tryz.f113),(116,Tryz.f116),(117,Tryz.f117),(118,Tryz.f118),(119,Tryz.f119),(127,Tryz.f127),(137,Tryz.f137),(139,Tryz.f139),(140,Tryz.f140),(141,Tryz.f141),(144,Tryz.f144),(145,Tryz.f145),(146,Tryz.f146),(149,Tryz.f149),(151,Tryz.f151),(152,Tryz.f152),(153,Tryz.f153),(154,Tryz.f154),(155,Tryz.f155),(156,Tryz.f156),(157,Tryz.f157),(158,Tryz.f158),(159,Tryz.f159),(160,Tryz.f160),(161,Tryz.f161),(162,Tryz.f162),(164,Tryz.f164),(165,Tryz.f165),(166,Tryz.f166),(167,Tryz.f167),(168,Tryz.f168),(169,Tryz.f169),(170,Tryz.f170),(171,Tryz.f171),(172,Tryz.f172),(173,Tryz.f173),(174,Tryz.f174),(177,Tryz.f177),(179,Tryz.f179),(182,Tryz.f182),(183,Tryz.f183),(187,Tryz.f187),(188,Tryz.f188),(193,Tryz.f193),(194,Tryz.f194),(195,Tryz.f195),(196,Tryz.f196),(197,Tryz.f197),(198,Tryz.f198),(201,Tryz.f201),(202,Tryz.f202),(203,Tryz.f203),(209,Tryz.f209),(210,Tryz.f210),(211,Tryz.f211),(212,Tryz.f212),(213,Tryz.f213),(214,Tryz.f214),(215,Tryz.f215),(216,Tryz.f216),(217,Tryz.f217),(218,Tryz.f218),(219,Tryz.f219),(227,Tryz.f227),(228,Tryz.f228),(229,Tryz.f229),(230,Tryz.f230),(232,Tryz.f232),(239,Tryz.f239)]}
noncomputable def E1:Env:=tab.env (extOf exts)
noncomputable def H1:Nat→Hints:=fun f=>(Eng.look [(13,⟨fun r=>(Eng.look [(5,[(0,none),(1,none),(5,none)])] r).getD [],fun r=>Eng.look [] r⟩),
 (16,⟨fun r=>(Eng.look [(3,[(0,none),(3,none),(4,none)])] r).getD [],fun r=>Eng.look [] r⟩),
 (20,⟨fun r=>(Eng.look [(4,[(0,none),(1,none),(5,none)])] r).getD [],fun r=>Eng.look [] r⟩),
 (22,⟨fun r=>(Eng.look [(2,[(0,none),(1,none),(5,none)])] r).getD [],fun r=>Eng.look [] r⟩),
 (37,⟨fun r=>(Eng.look [(5,[(0,none),(1,none),(5,none)])] r).getD [],fun r=>Eng.look [] r⟩),
 (38,⟨fun r=>(Eng.look [(5,[(0,none),(1,none),(5,none)])] r).getD [],fun r=>Eng.look [] r⟩),
 (40,⟨fun r=>(Eng.look [(3,[(4,none),(5,none),(11,none),(12,none),(13,none)])] r).getD [],fun r=>Eng.look [] r⟩),
 (42,⟨fun r=>(Eng.look [(3,[(0,none),(3,none),(4,none)])] r).getD [],fun r=>Eng.look [] r⟩),
 (43,⟨fun r=>(Eng.look [(3,[(0,none),(3,none),(4,none)])] r).getD [],fun r=>Eng.look [] r⟩),
 (44,⟨fun r=>(Eng.look [(3,[(0,none),(3,none),(4,none)])] r).getD [],fun r=>Eng.look [] r⟩),
 (46,⟨fun r=>(Eng.look [(5,[(4,none),(5,none),(15,none),(16,none),(17,none)])] r).getD [],fun r=>Eng.look [] r⟩),
 (47,⟨fun r=>(Eng.look [(4,[(1,none),(20,none),(21,none),(22,none)]),(9,[(1,none),(20,none),(21,none),(22,none),(37,none),(38,none),(39,none)]),(17,[(1,none),(87,none),(88,none),(89,none)])] r).getD [],fun r=>Eng.look [] r⟩),
 (51,⟨fun r=>(Eng.look [(4,[(0,none),(1,none),(5,none)])] r).getD [],fun r=>Eng.look [] r⟩),
 (52,⟨fun r=>(Eng.look [(4,[(0,none),(1,none),(5,none)])] r).getD [],fun r=>Eng.look [] r⟩),
 (53,⟨fun r=>(Eng.look [(4,[(0,none),(1,none),(5,none)])] r).getD [],fun r=>Eng.look [] r⟩),
 (55,⟨fun r=>(Eng.look [(2,[(0,none),(1,none),(5,none)])] r).getD [],fun r=>Eng.look [] r⟩),
 (56,⟨fun r=>(Eng.look [(2,[(0,none),(1,none),(5,none)])] r).getD [],fun r=>Eng.look [] r⟩),
 (57,⟨fun r=>(Eng.look [(2,[(0,none),(1,none),(5,none)])] r).getD [],fun r=>Eng.look [] r⟩),
 (58,⟨fun r=>(Eng.look [(2,[(0,none),(1,none),(5,none)])] r).getD [],fun r=>Eng.look [] r⟩),
 (65,⟨fun r=>(Eng.look [(4,[(1,none),(21,none),(22,none),(23,none)]),(9,[(1,none),(21,none),(22,none),(23,none),(38,none),(39,none),(40,none)]),(17,[(7,none),(55,none),(56,none),(57,none)])] r).getD [],fun r=>Eng.look [] r⟩),
 (77,⟨fun r=>(Eng.look [(4,[(1,none),(37,none),(38,none),(39,none)]),(10,[(1,none),(55,none),(56,none),(57,none)]),(21,[(1,none),(7,none),(79,none),(80,none),(81,none)]),(27,[(1,none),(103,none),(104,none),(105,none)])] r).getD [],fun r=>Eng.look [] r⟩),
 (79,⟨fun r=>(Eng.look [(4,[(1,none),(42,none),(43,none),(44,none)]),(10,[(1,none),(68,none),(69,none),(70,none)]),(17,[(1,none),(7,none),(79,none),(80,none),(81,none)]),(22,[(1,none),(7,none),(9,none),(79,none),(80,none),(81,none),(89,none),(90,none),(91,none)]),(34,[(1,none),(7,none),(131,none),(132,none),(133,none)])] r).getD [],fun r=>Eng.look [] r⟩),
 (82,⟨fun r=>(Eng.look [(4,[(0,none),(3,none)])] r).getD [],fun r=>Eng.look [] r⟩),
 (83,⟨fun r=>(Eng.look [(4,[(1,none),(5,none)])] r).getD [],fun r=>Eng.look [] r⟩),
 (89,⟨fun r=>(Eng.look [(3,[(1,none),(4,none),(5,none),(11,none),(12,none),(13,none)])] r).getD [],fun r=>Eng.look [] r⟩),
 (91,⟨fun r=>(Eng.look [(2,[(1,none),(3,none)]),(5,[(1,none),(3,none),(17,none),(18,none),(19,none)])] r).getD [],fun r=>Eng.look [] r⟩),
 (94,⟨fun r=>(Eng.look [(3,[(0,none),(3,none),(4,none)])] r).getD [],fun r=>Eng.look [] r⟩),
 (95,⟨fun r=>(Eng.look [(3,[(1,none),(4,none),(5,none),(11,none),(12,none),(13,none)])] r).getD [],fun r=>Eng.look [] r⟩),
 (97,⟨fun r=>(Eng.look [(2,[(1,none),(6,none),(7,none),(8,none)])] r).getD [],fun r=>Eng.look [] r⟩),
 (100,⟨fun r=>(Eng.look [(2,[(1,none),(12,none),(13,none),(14,none)]),(5,[(1,none),(12,none),(13,none),(14,none),(19,none),(20,none),(21,none)])] r).getD [],fun r=>Eng.look [] r⟩),
 (101,⟨fun r=>(Eng.look [(5,[(1,none),(3,none),(16,none),(17,none),(18,none)])] r).getD [],fun r=>Eng.look [] r⟩),
 (102,⟨fun r=>(Eng.look [(4,[(0,none),(1,none),(5,none)])] r).getD [],fun r=>Eng.look [] r⟩),
 (103,⟨fun r=>(Eng.look [(4,[(0,none),(1,none),(5,none)])] r).getD [],fun r=>Eng.look [] r⟩),
 (106,⟨fun r=>(Eng.look [(4,[(0,none),(1,none),(5,none)])] r).getD [],fun r=>Eng.look [] r⟩),
 (107,⟨fun r=>(Eng.look [(2,[(0,none),(1,none),(5,none)])] r).getD [],fun r=>Eng.look [] r⟩),
 (108,⟨fun r=>(Eng.look [(2,[(0,none),(1,none),(5,none)])] r).getD [],fun r=>Eng.look [] r⟩),
 (109,⟨fun r=>(Eng.look [(2,[(0,none),(1,none),(5,none)])] r).getD [],fun r=>Eng.look [] r⟩),
 (110,⟨fun r=>(Eng.look [(2,[(0,none),(1,none),(5,none)])] r).getD [],fun r=>Eng.look [] r⟩),
 (111,⟨fun r=>(Eng.look [(2,[(0,none),(1,none),(5,none)])] r).getD [],fun r=>Eng.look [] r⟩),
 (113,⟨fun r=>(Eng.look [(2,[(0,none),(1,none),(5,none)])] r).getD [],fun r=>Eng.look [] r⟩),
 (116,⟨fun r=>(Eng.look [(2,[(1,none),(6,none),(7,none),(8,none)])] r).getD [],fun r=>Eng.look [] r⟩),
 (118,⟨fun r=>(Eng.look [(3,[(1,none),(3,none),(4,none)]),(7,[(1,none),(3,none),(4,none),(5,none),(16,none),(17,none),(18,none)]),(10,[(1,none),(3,none),(4,none),(5,none),(16,none),(17,none),(18,none),(23,none),(24,none),(25,none)])] r).getD [],fun r=>Eng.look [] r⟩),
 (119,⟨fun r=>(Eng.look [(2,[(1,none),(7,none),(8,none),(9,none)])] r).getD [],fun r=>Eng.look [] r⟩),
 (139,⟨fun r=>(Eng.look [(6,[(1,none),(65,none),(66,none),(67,none)])] r).getD [],fun r=>Eng.look [(5,[(1,none)]),(13,[(1,none)])] r⟩),
 (140,⟨fun r=>(Eng.look [(3,[(4,none),(11,none),(12,none),(13,none)]),(6,[(4,none),(6,none),(11,none),(12,none),(13,none),(18,none),(19,none),(20,none)])] r).getD [],fun r=>Eng.look [] r⟩),
 (141,⟨fun r=>(Eng.look [(2,[(0,none),(3,none)])] r).getD [],fun r=>Eng.look [] r⟩),
 (144,⟨fun r=>(Eng.look [(10,[(1,none),(83,none),(84,none),(85,none)])] r).getD [],fun r=>Eng.look [(7,[(1,none)])] r⟩),
 (146,⟨fun r=>(Eng.look [(2,[(0,none),(5,none),(6,none)])] r).getD [],fun r=>Eng.look [] r⟩),
 (152,⟨fun r=>(Eng.look [(3,[(2,none),(3,none),(18,none),(19,none),(20,none)])] r).getD [],fun r=>Eng.look [] r⟩),
 (153,⟨fun r=>(Eng.look [(5,[(3,none),(11,none),(12,none),(13,none)])] r).getD [],fun r=>Eng.look [] r⟩),
 (155,⟨fun r=>(Eng.look [(3,[(3,none),(11,none),(12,none),(13,none)])] r).getD [],fun r=>Eng.look [] r⟩),
 (156,⟨fun r=>(Eng.look [(4,[(0,none),(1,none),(5,none)])] r).getD [],fun r=>Eng.look [] r⟩),
 (157,⟨fun r=>(Eng.look [(5,[(1,none),(3,none),(4,none)])] r).getD [],fun r=>Eng.look [] r⟩),
 (158,⟨fun r=>(Eng.look [(3,[(0,none),(3,none),(4,none)])] r).getD [],fun r=>Eng.look [] r⟩),
 (159,⟨fun r=>(Eng.look [(3,[(2,none),(3,none),(16,none),(17,none),(18,none)])] r).getD [],fun r=>Eng.look [] r⟩),
 (160,⟨fun r=>(Eng.look [(5,[(3,none),(11,none),(12,none),(13,none)])] r).getD [],fun r=>Eng.look [] r⟩),
 (162,⟨fun r=>(Eng.look [(4,[(0,none),(1,none),(16,none),(17,none),(18,none)])] r).getD [],fun r=>Eng.look [] r⟩),
 (165,⟨fun r=>(Eng.look [(3,[(3,none),(15,none),(16,none),(17,none)])] r).getD [],fun r=>Eng.look [] r⟩),
 (166,⟨fun r=>(Eng.look [(4,[(0,none),(1,none),(5,none)])] r).getD [],fun r=>Eng.look [] r⟩),
 (167,⟨fun r=>(Eng.look [(5,[(1,none),(3,none),(36,none)])] r).getD [],fun r=>Eng.look [] r⟩),
 (169,⟨fun r=>(Eng.look [(4,[(0,none),(1,none),(5,none)])] r).getD [],fun r=>Eng.look [] r⟩),
 (170,⟨fun r=>(Eng.look [(2,[(0,none),(1,none),(5,none)])] r).getD [],fun r=>Eng.look [] r⟩),
 (171,⟨fun r=>(Eng.look [(2,[(0,none),(1,none),(5,none)])] r).getD [],fun r=>Eng.look [] r⟩),
 (172,⟨fun r=>(Eng.look [(2,[(0,none),(1,none),(5,none)])] r).getD [],fun r=>Eng.look [] r⟩),
 (173,⟨fun r=>(Eng.look [(2,[(0,none),(1,none),(5,none)])] r).getD [],fun r=>Eng.look [] r⟩),
 (174,⟨fun r=>(Eng.look [(2,[(0,none),(1,none),(5,none)])] r).getD [],fun r=>Eng.look [] r⟩),
 (179,⟨fun r=>(Eng.look [(5,[(0,none),(5,none),(6,none)])] r).getD [],fun r=>Eng.look [] r⟩),
 (182,⟨fun r=>(Eng.look [(4,[(1,none),(12,none),(13,none),(14,none)])] r).getD [],fun r=>Eng.look [] r⟩),
 (183,⟨fun r=>(Eng.look [(4,[(1,none),(12,none),(13,none),(14,none)])] r).getD [],fun r=>Eng.look [] r⟩),
 (187,⟨fun r=>(Eng.look [(5,[(0,none),(5,none),(6,none)])] r).getD [],fun r=>Eng.look [] r⟩),
 (193,⟨fun r=>(Eng.look [(4,[(0,none),(1,none),(12,none),(13,none)])] r).getD [],fun r=>Eng.look [] r⟩),
 (194,⟨fun r=>(Eng.look [(4,[(0,none),(1,none),(12,none),(13,none)])] r).getD [],fun r=>Eng.look [] r⟩),
 (197,⟨fun r=>(Eng.look [(2,[(0,none),(6,none),(7,none),(8,none)])] r).getD [],fun r=>Eng.look [] r⟩),
 (203,⟨fun r=>(Eng.look [(4,[(0,none),(8,none),(9,none),(10,none)])] r).getD [],fun r=>Eng.look [(17,[(0,none),(3,none),(4,none),(8,none),(9,none),(10,none)])] r⟩),
 (210,⟨fun r=>(Eng.look [(4,[(1,none),(2,none),(6,none),(7,none),(8,none),(9,none)]),(12,[(1,none),(2,none),(6,none),(7,none),(8,none),(9,none)])] r).getD [],fun r=>Eng.look [(8,[(1,none),(2,none),(6,none),(7,none),(8,none),(9,none)]),(12,[(1,none),(2,none),(6,none),(7,none),(8,none),(9,none)])] r⟩),
 (211,⟨fun r=>(Eng.look [(5,[(3,none),(12,none),(13,none),(14,none)])] r).getD [],fun r=>Eng.look [] r⟩),
 (214,⟨fun r=>(Eng.look [(2,[(0,none),(1,none),(7,none),(8,none)])] r).getD [],fun r=>Eng.look [] r⟩),
 (215,⟨fun r=>(Eng.look [(3,[(3,none),(8,none),(9,none),(10,none)])] r).getD [],fun r=>Eng.look [] r⟩),
 (216,⟨fun r=>(Eng.look [(5,[(3,none),(12,none),(13,none),(14,none)])] r).getD [],fun r=>Eng.look [] r⟩),
 (217,⟨fun r=>(Eng.look [(4,[(0,none),(1,none),(5,none)])] r).getD [],fun r=>Eng.look [] r⟩),
 (219,⟨fun r=>(Eng.look [(2,[(0,none),(1,none),(5,none)])] r).getD [],fun r=>Eng.look [] r⟩),
 (228,⟨fun r=>(Eng.look [(3,[(3,none),(6,none),(7,none),(8,none)])] r).getD [],fun r=>Eng.look [] r⟩)] f).getD ⟨fun _=>[],fun _=>none⟩
noncomputable def c_laws_FnExactStartMachine(k:Nat)(x:(DFS×(List DCred))):Option Bool:=runF E1 H1 k 4 s_laws_FnExactStartMachine x
noncomputable def c_laws_szFS(k:Nat)(x:(DFS×Int)):Option Int:=runF E1 H1 k 12 s_laws_szFS x
noncomputable def c_laws_szCredS(k:Nat)(x:((List DCred)×Int)):Option Int:=runF E1 H1 k 13 s_laws_szCredS x
noncomputable def c_spec_StartMachine(k:Nat)(x:(DFS×(List DCred))):Option (DMachine×Bool):=runF E1 H1 k 14 s_spec_StartMachine x
noncomputable def c_laws_toFS(k:Nat)(x:DFS):Option DFS:=runF E1 H1 k 15 s_laws_toFS x
noncomputable def c_laws_toCredS(k:Nat)(x:(List DCred)):Option (List DCred):=runF E1 H1 k 16 s_laws_toCredS x
noncomputable def c_impl_StartMachine(k:Nat)(x:(DFS×(List DCred))):Option (DMachine×Bool):=runF E1 H1 k 17 s_impl_StartMachine x
noncomputable def c_laws_eqMachine(k:Nat)(x:(DMachine×DMachine)):Option Bool:=runF E1 H1 k 18 s_laws_eqMachine x
noncomputable def c_laws_eqFS(k:Nat)(x:(DFS×DFS)):Option Bool:=runF E1 H1 k 19 s_laws_eqFS x
noncomputable def c_laws_eqCredS(k:Nat)(x:((List DCred)×(List DCred))):Option Bool:=runF E1 H1 k 20 s_laws_eqCredS x
noncomputable def c_laws_markCredS(k:Nat)(x:((List DCred)×Int)):Option (Int×(List DCred)):=runF E1 H1 k 22 s_laws_markCredS x
noncomputable def c_laws_heldMachine(k:Nat)(x:DConsole):Option Int:=runF E1 H1 k 24 s_laws_heldMachine x
noncomputable def c_laws_szQuotaS(k:Nat)(x:((List DQuota)×Int)):Option Int:=runF E1 H1 k 36 s_laws_szQuotaS x
noncomputable def c_laws_szInodeS(k:Nat)(x:((List DInode)×Int)):Option Int:=runF E1 H1 k 37 s_laws_szInodeS x
noncomputable def c_laws_szStringS(k:Nat)(x:((List ByteArray)×Int)):Option Int:=runF E1 H1 k 38 s_laws_szStringS x
noncomputable def c_laws_szCred(k:Nat)(x:(DCred×Int)):Option Int:=runF E1 H1 k 39 s_laws_szCred x
noncomputable def c_spec_NewSystem(k:Nat)(x:(DFS×(List DCred))):Option DSystem:=runF E1 H1 k 40 s_spec_NewSystem x
noncomputable def c_spec_FormatFS(k:Nat)(x:DFS):Option DDisk:=runF E1 H1 k 41 s_spec_FormatFS x
noncomputable def c_laws_toQuotaS(k:Nat)(x:(List DQuota)):Option (List DQuota):=runF E1 H1 k 42 s_laws_toQuotaS x
noncomputable def c_laws_toInodeS(k:Nat)(x:(List DInode)):Option (List DInode):=runF E1 H1 k 43 s_laws_toInodeS x
noncomputable def c_laws_toStringS(k:Nat)(x:(List ByteArray)):Option (List ByteArray):=runF E1 H1 k 44 s_laws_toStringS x
noncomputable def c_laws_toCred(k:Nat)(x:DCred):Option DCred:=runF E1 H1 k 45 s_laws_toCred x
noncomputable def c_impl_NewSystem(k:Nat)(x:(DFS×(List DCred))):Option DSystem:=runF E1 H1 k 46 s_impl_NewSystem x
noncomputable def c_impl_IsSystem(k:Nat)(x:DSystem):Option Bool:=runF E1 H1 k 47 s_impl_IsSystem x
noncomputable def c_impl_FormatFS(k:Nat)(x:DFS):Option DDisk:=runF E1 H1 k 48 s_impl_FormatFS x
noncomputable def c_laws_eqDisk(k:Nat)(x:(DDisk×DDisk)):Option Bool:=runF E1 H1 k 49 s_laws_eqDisk x
noncomputable def c_laws_eqSystem(k:Nat)(x:(DSystem×DSystem)):Option Bool:=runF E1 H1 k 50 s_laws_eqSystem x
noncomputable def c_laws_eqQuotaS(k:Nat)(x:((List DQuota)×(List DQuota))):Option Bool:=runF E1 H1 k 51 s_laws_eqQuotaS x
noncomputable def c_laws_eqInodeS(k:Nat)(x:((List DInode)×(List DInode))):Option Bool:=runF E1 H1 k 52 s_laws_eqInodeS x
noncomputable def c_laws_eqStringS(k:Nat)(x:((List ByteArray)×(List ByteArray))):Option Bool:=runF E1 H1 k 53 s_laws_eqStringS x
noncomputable def c_laws_eqCred(k:Nat)(x:(DCred×DCred)):Option Bool:=runF E1 H1 k 54 s_laws_eqCred x
noncomputable def c_laws_markQuotaS(k:Nat)(x:((List DQuota)×Int)):Option (Int×(List DQuota)):=runF E1 H1 k 55 s_laws_markQuotaS x
noncomputable def c_laws_markInodeS(k:Nat)(x:((List DInode)×Int)):Option (Int×(List DInode)):=runF E1 H1 k 56 s_laws_markInodeS x
noncomputable def c_laws_markStringS(k:Nat)(x:((List ByteArray)×Int)):Option (Int×(List ByteArray)):=runF E1 H1 k 57 s_laws_markStringS x
noncomputable def c_laws_markIntS(k:Nat)(x:((List Int)×Int)):Option (Int×(List Int)):=runF E1 H1 k 58 s_laws_markIntS x
noncomputable def c_laws_heldDisk(k:Nat)(x:(DDisk×Int)):Option Int:=runF E1 H1 k 61 s_laws_heldDisk x
noncomputable def c_laws_heldSystem(k:Nat)(x:(DSystem×Int)):Option Int:=runF E1 H1 k 62 s_laws_heldSystem x
noncomputable def c_spec_IsSystem(k:Nat)(x:DSystem):Option Bool:=runF E1 H1 k 65 s_spec_IsSystem x
noncomputable def c_spec_l01In(k:Nat)(x:DOpen):Option Bool:=runF E1 H1 k 66 s_spec_l01In x
noncomputable def c_spec_IsFS(k:Nat)(x:DFS):Option Bool:=runF E1 H1 k 77 s_spec_IsFS x
noncomputable def c_impl_IsFS(k:Nat)(x:DFS):Option Bool:=runF E1 H1 k 79 s_impl_IsFS x
noncomputable def c_laws_markText(k:Nat)(x:Int):Option ByteArray:=runF E1 H1 k 82 s_laws_markText x
noncomputable def c_spec_PadTo(k:Nat)(x:DerrorAddressString):Option ByteArray:=runF E1 H1 k 83 s_spec_PadTo x
noncomputable def c_slices_Clone_impl_Quota_impl_Quota(k:Nat)(x:(List DQuota)):Option (List DQuota):=runF E1 H1 k 84 s_slices_Clone_impl_Quota_impl_Quota x
noncomputable def c_slices_Repeat_string_string(k:Nat)(x:((List ByteArray)×Int)):Option (List ByteArray):=runF E1 H1 k 85 s_slices_Repeat_string_string x
noncomputable def c_impl_zeros(k:Nat)(x:Int):Option ByteArray:=runF E1 H1 k 86 s_impl_zeros x
noncomputable def c_laws_szInode(k:Nat)(x:(DInode×Int)):Option Int:=runF E1 H1 k 87 s_laws_szInode x
noncomputable def c_laws_szIntS(k:Nat)(x:((List Int)×Int)):Option Int:=runF E1 H1 k 88 s_laws_szIntS x
noncomputable def c_spec_DropOrphans(k:Nat)(x:(DFS×(List Int))):Option DFS:=runF E1 H1 k 89 s_spec_DropOrphans x
noncomputable def c_spec_l06Copy(k:Nat)(x:DCred):Option DCred:=runF E1 H1 k 90 s_spec_l06Copy x
noncomputable def c_spec_l18Pack(k:Nat)(x:DFS):Option (List ByteArray):=runF E1 H1 k 91 s_spec_l18Pack x
noncomputable def c_laws_toQuota(k:Nat)(x:DQuota):Option DQuota:=runF E1 H1 k 92 s_laws_toQuota x
noncomputable def c_laws_toInode(k:Nat)(x:DInode):Option DInode:=runF E1 H1 k 93 s_laws_toInode x
noncomputable def c_laws_toIntS(k:Nat)(x:(List Int)):Option (List Int):=runF E1 H1 k 94 s_laws_toIntS x
noncomputable def c_impl_DropOrphans(k:Nat)(x:(DFS×(List Int))):Option DFS:=runF E1 H1 k 95 s_impl_DropOrphans x
noncomputable def c_impl_copyCred(k:Nat)(x:DCred):Option DCred:=runF E1 H1 k 96 s_impl_copyCred x
noncomputable def c_impl_IsCred(k:Nat)(x:DCred):Option Bool:=runF E1 H1 k 97 s_impl_IsCred x
noncomputable def c_impl_FS_has(k:Nat)(x:((Option DFS)×Int)):Option Bool:=runF E1 H1 k 98 s_impl_FS_has x
noncomputable def c_impl_FS_isDir(k:Nat)(x:((Option DFS)×Int)):Option Bool:=runF E1 H1 k 99 s_impl_FS_isDir x
noncomputable def c_impl_System_isOpen(k:Nat)(x:((Option DSystem)×Int)):Option Bool:=runF E1 H1 k 100 s_impl_System_isOpen x
noncomputable def c_impl_PackFS(k:Nat)(x:DFS):Option (List ByteArray):=runF E1 H1 k 101 s_impl_PackFS x
noncomputable def c_laws_eqWriteS(k:Nat)(x:((List DWrite)×(List DWrite))):Option Bool:=runF E1 H1 k 102 s_laws_eqWriteS x
noncomputable def c_laws_eqProcS(k:Nat)(x:((List DProc)×(List DProc))):Option Bool:=runF E1 H1 k 103 s_laws_eqProcS x
noncomputable def c_laws_eqQuota(k:Nat)(x:(DQuota×DQuota)):Option Bool:=runF E1 H1 k 104 s_laws_eqQuota x
noncomputable def c_laws_eqInode(k:Nat)(x:(DInode×DInode)):Option Bool:=runF E1 H1 k 105 s_laws_eqInode x
noncomputable def c_laws_eqIntS(k:Nat)(x:((List Int)×(List Int))):Option Bool:=runF E1 H1 k 106 s_laws_eqIntS x
noncomputable def c_laws_markAclEntryS(k:Nat)(x:((List DOpen)×Int)):Option (Int×(List DOpen)):=runF E1 H1 k 107 s_laws_markAclEntryS x
noncomputable def c_laws_markWriteS(k:Nat)(x:((List DWrite)×Int)):Option (Int×(List DWrite)):=runF E1 H1 k 108 s_laws_markWriteS x
noncomputable def c_laws_markProcS(k:Nat)(x:((List DProc)×Int)):Option (Int×(List DProc)):=runF E1 H1 k 109 s_laws_markProcS x
noncomputable def c_laws_heldStringS(k:Nat)(x:((List ByteArray)×Int)):Option Int:=runF E1 H1 k 110 s_laws_heldStringS x
noncomputable def c_laws_heldWriteS(k:Nat)(x:((List DWrite)×Int)):Option Int:=runF E1 H1 k 111 s_laws_heldWriteS x
noncomputable def c_laws_heldFS(k:Nat)(x:(DFS×Int)):Option Int:=runF E1 H1 k 112 s_laws_heldFS x
noncomputable def c_laws_heldProcS(k:Nat)(x:((List DProc)×Int)):Option Int:=runF E1 H1 k 113 s_laws_heldProcS x
noncomputable def c_spec_IsCred(k:Nat)(x:DCred):Option Bool:=runF E1 H1 k 116 s_spec_IsCred x
noncomputable def c_spec_l16Open(k:Nat)(x:(DFS×DOpen)):Option Bool:=runF E1 H1 k 117 s_spec_l16Open x
noncomputable def c_spec_l16Busy(k:Nat)(x:DSystem):Option (List Int):=runF E1 H1 k 118 s_spec_l16Busy x
noncomputable def c_spec_l02Has(k:Nat)(x:((List Int)×Int)):Option Bool:=runF E1 H1 k 119 s_spec_l02Has x
noncomputable def c_spec_SameInode(k:Nat)(x:(DInode×DInode)):Option Bool:=runF E1 H1 k 127 s_spec_SameInode x
noncomputable def c_impl_SameInode(k:Nat)(x:(DInode×DInode)):Option Bool:=runF E1 H1 k 137 s_impl_SameInode x
noncomputable def c_spec_IsInode(k:Nat)(x:DInode):Option Bool:=runF E1 H1 k 139 s_spec_IsInode x
noncomputable def c_spec_l08Used(k:Nat)(x:DFS):Option ((List Bool)×Bool):=runF E1 H1 k 140 s_spec_l08Used x
noncomputable def c_spec_IsZeroes(k:Nat)(x:ByteArray):Option Bool:=runF E1 H1 k 141 s_spec_IsZeroes x
noncomputable def c_impl_IsInode(k:Nat)(x:DInode):Option Bool:=runF E1 H1 k 144 s_impl_IsInode x
noncomputable def c_impl_BlockOwner(k:Nat)(x:Int):Option Int:=runF E1 H1 k 145 s_impl_BlockOwner x
noncomputable def c_impl_IsZeroes(k:Nat)(x:ByteArray):Option Bool:=runF E1 H1 k 146 s_impl_IsZeroes x
noncomputable def c_laws_eqWrite(k:Nat)(x:(DWrite×DWrite)):Option Bool:=runF E1 H1 k 149 s_laws_eqWrite x
noncomputable def c_laws_szAclEntryS(k:Nat)(x:((List DOpen)×Int)):Option Int:=runF E1 H1 k 151 s_laws_szAclEntryS x
noncomputable def c_spec_l08Copy(k:Nat)(x:DFS):Option DFS:=runF E1 H1 k 152 s_spec_l08Copy x
noncomputable def c_spec_OrphansOf(k:Nat)(x:DFS):Option (List Int):=runF E1 H1 k 153 s_spec_OrphansOf x
noncomputable def c_spec_l09Free(k:Nat)(x:(DFS×Int)):Option DFS:=runF E1 H1 k 154 s_spec_l09Free x
noncomputable def c_spec_l18Super(k:Nat)(x:DFS):Option ByteArray:=runF E1 H1 k 155 s_spec_l18Super x
noncomputable def c_spec_CutAll(k:Nat)(x:DerrorAddressString):Option (List ByteArray):=runF E1 H1 k 156 s_spec_CutAll x
noncomputable def c_spec_PackInode(k:Nat)(x:DInode):Option ByteArray:=runF E1 H1 k 157 s_spec_PackInode x
noncomputable def c_laws_toAclEntryS(k:Nat)(x:(List DOpen)):Option (List DOpen):=runF E1 H1 k 158 s_laws_toAclEntryS x
noncomputable def c_impl_copyFS(k:Nat)(x:DFS):Option DFS:=runF E1 H1 k 159 s_impl_copyFS x
noncomputable def c_impl_OrphansOf(k:Nat)(x:DFS):Option (List Int):=runF E1 H1 k 160 s_impl_OrphansOf x
noncomputable def c_slices_Contains_int_int(k:Nat)(x:((List Int)×Int)):Option Bool:=runF E1 H1 k 161 s_slices_Contains_int_int x
noncomputable def c_impl_FS_free(k:Nat)(x:(DFS×Int)):Option (Int×DFS):=runF E1 H1 k 162 s_impl_FS_free x
noncomputable def c_slices_Clone_int_int(k:Nat)(x:(List Int)):Option (List Int):=runF E1 H1 k 163 s_slices_Clone_int_int x
noncomputable def c_impl_isUser(k:Nat)(x:Int):Option Bool:=runF E1 H1 k 164 s_impl_isUser x
noncomputable def c_impl_FS_super(k:Nat)(x:(Option DFS)):Option ByteArray:=runF E1 H1 k 165 s_impl_FS_super x
noncomputable def c_impl_CutAll(k:Nat)(x:DerrorAddressString):Option (List ByteArray):=runF E1 H1 k 166 s_impl_CutAll x
noncomputable def c_impl_PackInode(k:Nat)(x:DInode):Option ByteArray:=runF E1 H1 k 167 s_impl_PackInode x
noncomputable def c_laws_eqProc(k:Nat)(x:(DProc×DProc)):Option Bool:=runF E1 H1 k 168 s_laws_eqProc x
noncomputable def c_laws_eqAclEntryS(k:Nat)(x:((List DOpen)×(List DOpen))):Option Bool:=runF E1 H1 k 169 s_laws_eqAclEntryS x
noncomputable def c_laws_markOpenS(k:Nat)(x:((List DOpen)×Int)):Option (Int×(List DOpen)):=runF E1 H1 k 170 s_laws_markOpenS x
noncomputable def c_laws_heldQuotaS(k:Nat)(x:((List DQuota)×Int)):Option Int:=runF E1 H1 k 171 s_laws_heldQuotaS x
noncomputable def c_laws_heldInodeS(k:Nat)(x:((List DInode)×Int)):Option Int:=runF E1 H1 k 172 s_laws_heldInodeS x
noncomputable def c_laws_heldIntS(k:Nat)(x:((List Int)×Int)):Option Int:=runF E1 H1 k 173 s_laws_heldIntS x
noncomputable def c_laws_heldOpenS(k:Nat)(x:((List DOpen)×Int)):Option Int:=runF E1 H1 k 174 s_laws_heldOpenS x
noncomputable def c_spec_l06User(k:Nat)(x:Int):Option Bool:=runF E1 H1 k 177 s_spec_l06User x
noncomputable def c_spec_PutNumber(k:Nat)(x:DQuota):Option ByteArray:=runF E1 H1 k 179 s_spec_PutNumber x
noncomputable def c_spec_l02Same(k:Nat)(x:((List Int)×(List Int))):Option Bool:=runF E1 H1 k 182 s_spec_l02Same x
noncomputable def c_spec_l05Same(k:Nat)(x:((List DOpen)×(List DOpen))):Option Bool:=runF E1 H1 k 183 s_spec_l05Same x
noncomputable def c_impl_PutNumber(k:Nat)(x:DQuota):Option ByteArray:=runF E1 H1 k 187 s_impl_PutNumber x
noncomputable def c_impl_PadTo(k:Nat)(x:DerrorAddressString):Option ByteArray:=runF E1 H1 k 188 s_impl_PadTo x
noncomputable def c_slices_Clone_string_string(k:Nat)(x:(List ByteArray)):Option (List ByteArray):=runF E1 H1 k 192 s_slices_Clone_string_string x
noncomputable def c_slices_Equal_int_int(k:Nat)(x:((List Int)×(List Int))):Option Bool:=runF E1 H1 k 193 s_slices_Equal_int_int x
noncomputable def c_slices_Equal_impl_AclEntry_impl_AclEntry(k:Nat)(x:((List DOpen)×(List DOpen))):Option Bool:=runF E1 H1 k 194 s_slices_Equal_impl_AclEntry_impl_AclEntry x
noncomputable def c_spec_l06Mode(k:Nat)(x:Int):Option Bool:=runF E1 H1 k 195 s_spec_l06Mode x
noncomputable def c_spec_BlocksNeeded(k:Nat)(x:Int):Option Int:=runF E1 H1 k 196 s_spec_BlocksNeeded x
noncomputable def c_spec_IsAcl(k:Nat)(x:(List DOpen)):Option Bool:=runF E1 H1 k 197 s_spec_IsAcl x
noncomputable def c_spec_BlockOwner(k:Nat)(x:Int):Option Int:=runF E1 H1 k 198 s_spec_BlockOwner x
noncomputable def c_impl_isMode(k:Nat)(x:Int):Option Bool:=runF E1 H1 k 201 s_impl_isMode x
noncomputable def c_impl_BlocksNeeded(k:Nat)(x:Int):Option Int:=runF E1 H1 k 202 s_impl_BlocksNeeded x
noncomputable def c_impl_IsAcl(k:Nat)(x:(List DOpen)):Option Bool:=runF E1 H1 k 203 s_impl_IsAcl x
noncomputable def c_spec_l07Copy(k:Nat)(x:DInode):Option DInode:=runF E1 H1 k 209 s_spec_l07Copy x
noncomputable def c_spec_l09Resize(k:Nat)(x:(DFS×DQuota)):Option DFS:=runF E1 H1 k 210 s_spec_l09Resize x
noncomputable def c_spec_PackAcl(k:Nat)(x:(List DOpen)):Option ByteArray:=runF E1 H1 k 211 s_spec_PackAcl x
noncomputable def c_laws_toAclEntry(k:Nat)(x:DOpen):Option DOpen:=runF E1 H1 k 212 s_laws_toAclEntry x
noncomputable def c_impl_copyInode(k:Nat)(x:DInode):Option DInode:=runF E1 H1 k 213 s_impl_copyInode x
noncomputable def c_slices_Index_int_int(k:Nat)(x:((List Int)×Int)):Option Int:=runF E1 H1 k 214 s_slices_Index_int_int x
noncomputable def c_impl_UsedBlocks(k:Nat)(x:DInode):Option (List Int):=runF E1 H1 k 215 s_impl_UsedBlocks x
noncomputable def c_impl_PackAcl(k:Nat)(x:(List DOpen)):Option ByteArray:=runF E1 H1 k 216 s_impl_PackAcl x
noncomputable def c_laws_eqOpenS(k:Nat)(x:((List DOpen)×(List DOpen))):Option Bool:=runF E1 H1 k 217 s_laws_eqOpenS x
noncomputable def c_laws_eqAclEntry(k:Nat)(x:(DOpen×DOpen)):Option Bool:=runF E1 H1 k 218 s_laws_eqAclEntry x
noncomputable def c_laws_heldAclEntryS(k:Nat)(x:((List DOpen)×Int)):Option Int:=runF E1 H1 k 219 s_laws_heldAclEntryS x
noncomputable def c_strings_Repeat(k:Nat)(x:DerrorAddressString):Option ByteArray:=runF E1 H1 k 223 s_strings_Repeat x
noncomputable def c_spec_l05Entry(k:Nat)(x:DOpen):Option Bool:=runF E1 H1 k 227 s_spec_l05Entry x
noncomputable def c_cmp_Or_int(k:Nat)(x:(List Int)):Option Int:=runF E1 H1 k 228 s_cmp_Or_int x
noncomputable def c_cmp_Compare_int(k:Nat)(x:DQuota):Option Int:=runF E1 H1 k 229 s_cmp_Compare_int x
noncomputable def c_spec_l05Copy(k:Nat)(x:(List DOpen)):Option (List DOpen):=runF E1 H1 k 230 s_spec_l05Copy x
noncomputable def c_slices_Clone_impl_AclEntry_impl_AclEntry(k:Nat)(x:(List DOpen)):Option (List DOpen):=runF E1 H1 k 231 s_slices_Clone_impl_AclEntry_impl_AclEntry x
noncomputable def c_laws_eqOpen(k:Nat)(x:(DOpen×DOpen)):Option Bool:=runF E1 H1 k 232 s_laws_eqOpen x
noncomputable def c_cmp_isNaN_int(k:Nat)(x:Int):Option Bool:=runF E1 H1 k 239 s_cmp_isNaN_int x
theorem c_slices_Clone_impl_Quota_impl_Quota_run(k:Nat)(x):c_slices_Clone_impl_Quota_impl_Quota (k+1) x=ext_slices_Clone_impl_Quota_impl_Quota x:=by kernel_rfl
theorem c_slices_Repeat_string_string_run(k:Nat)(x):c_slices_Repeat_string_string (k+1) x=ext_slices_Repeat_string_string x:=by kernel_rfl
theorem c_slices_Clone_int_int_run(k:Nat)(x):c_slices_Clone_int_int (k+1) x=ext_slices_Clone_int_int x:=by kernel_rfl
theorem c_slices_Clone_string_string_run(k:Nat)(x):c_slices_Clone_string_string (k+1) x=ext_slices_Clone_string_string x:=by kernel_rfl
theorem c_strings_Repeat_run(k:Nat)(x):c_strings_Repeat (k+1) x=ext_strings_Repeat x:=by kernel_rfl
theorem c_slices_Clone_impl_AclEntry_impl_AclEntry_run(k:Nat)(x):c_slices_Clone_impl_AclEntry_impl_AclEntry (k+1) x=ext_slices_Clone_impl_AclEntry_impl_AclEntry x:=by kernel_rfl
end Go.Proofs.YtmmgfgfkkpeedaaGreat
