/- The tables, the residual functions and lemmas of this seat: parts of the proof of the law; conditions: those that each names. -/
import Derived.Test.YtkmnlefjlhogaaaEng5
import Derived.KernelRfl
import Derived.Test.YtkmnlefjlhogaaaProg
set_option maxRecDepth 100000
namespace Go.Proofs.Ytkmnlefjlhogaaa
open Go.Eng
abbrev DQuota:Type:=(Int×Int)
abbrev DerrorAddressString:Type:=(ByteArray×Int)
abbrev DAclEntry:Type:=(Int×DQuota)
abbrev Dl01Cur:Type:=((List Int)×DQuota)
abbrev DboundsError:Type:=(Int×(Int×(Bool×Int)))
abbrev DInode:Type:=(Int×(Int×(Int×(Int×(Int×(Int×(Int×((List Int)×((List DAclEntry)×(List DAclEntry))))))))))
abbrev DFS:Type:=(Int×((List DQuota)×((List DInode)×(List ByteArray))))
abbrev TerrorAddressStringk:Ty:=(.pair .str (.int .u64))
abbrev TQuotak:Ty:=(.pair (.int .i64) (.int .i64))
abbrev TAclEntryk:Ty:=(.pair (.int .i64) TQuotak)
abbrev Tl01Curo:Ty:=(.pair (.list true (.int .u8)) TQuotak)
abbrev TboundsErrork:Ty:=(.pair (.int .i64) (.pair (.int .i64) (.pair .bool (.int .u8))))
abbrev Tl01Curk:Ty:=(.pair (.list false (.int .u8)) TQuotak)
abbrev TInodeo:Ty:=(.pair (.int .i64) (.pair (.int .i64) (.pair (.int .i64) (.pair (.int .i64) (.pair (.int .i64) (.pair (.int .i64) (.pair (.int .i64) (.pair (.list true .ti) (.pair (.list true TAclEntryk) (.list true TAclEntryk))))))))))
abbrev TInodek:Ty:=(.pair (.int .i64) (.pair (.int .i64) (.pair (.int .i64) (.pair (.int .i64) (.pair (.int .i64) (.pair (.int .i64) (.pair (.int .i64) (.pair (.list false .ti) (.pair (.list false TAclEntryk) (.list false TAclEntryk))))))))))
abbrev TFSo:Ty:=(.pair (.int .i64) (.pair (.list true TQuotak) (.pair (.list true TInodeo) (.list true .str))))
abbrev TFSk:Ty:=(.pair (.int .i64) (.pair (.list false TQuotak) (.pair (.list false TInodek) (.list false .str))))
abbrev s_laws_FnPools:Sig:=⟨[.val (.list false (.int .u8))],[.bool],none⟩
abbrev s_spec_MakeFS:Sig:=⟨[.val (.list false (.int .u8))],[(.pair (.int .i64) (.pair (.list true TQuotak) (.pair (.list true TInodek) (.list true .str))))],none⟩
abbrev s_impl_NextInode:Sig:=⟨[.val (.pair (.int .i64) (.pair (.list false TQuotak) (.pair (.list false (.pair (.int .i64) (.pair (.int .i64) (.pair (.int .i64) (.pair (.int .i64) (.pair (.int .i64) (.pair (.int .i64) (.pair (.int .i64) (.pair (.list false (.int .i64)) (.pair (.list false TAclEntryk) (.list false TAclEntryk))))))))))) (.list false .str)))),.val (.int .i64)],[(.int .i64),(.int .i64)],none⟩
abbrev s_impl_NextBlock:Sig:=⟨[.val (.pair (.int .i64) (.pair (.list false TQuotak) (.pair (.list false (.pair (.int .i64) (.pair (.int .i64) (.pair (.int .i64) (.pair (.int .i64) (.pair (.int .i64) (.pair (.int .i64) (.pair (.int .i64) (.pair (.list false (.int .i64)) (.pair (.list false TAclEntryk) (.list false TAclEntryk))))))))))) (.list false .str)))),.val (.int .i64)],[(.int .i64),(.int .i64)],none⟩
abbrev s_impl_BlockOwner:Sig:=⟨[.val (.int .i64)],[(.int .i64)],none⟩
abbrev s_impl_IsZeroes:Sig:=⟨[.val .str],[.bool],none⟩
abbrev s_impl_InodesOf:Sig:=⟨[.val (.pair (.int .i64) (.pair (.list false TQuotak) (.pair (.list false (.pair (.int .i64) (.pair (.int .i64) (.pair (.int .i64) (.pair (.int .i64) (.pair (.int .i64) (.pair (.int .i64) (.pair (.int .i64) (.pair (.list false (.int .i64)) (.pair (.list false TAclEntryk) (.list false TAclEntryk))))))))))) (.list false .str)))),.val (.int .i64)],[(.int .i64)],none⟩
abbrev s_impl_BlocksOf:Sig:=⟨[.val (.pair (.int .i64) (.pair (.list false TQuotak) (.pair (.list false (.pair (.int .i64) (.pair (.int .i64) (.pair (.int .i64) (.pair (.int .i64) (.pair (.int .i64) (.pair (.int .i64) (.pair (.int .i64) (.pair (.list false (.int .i64)) (.pair (.list false TAclEntryk) (.list false TAclEntryk))))))))))) (.list false .str)))),.val (.int .i64)],[(.int .i64)],none⟩
abbrev s_impl_PoolOf:Sig:=⟨[.val (.pair (.int .i64) (.pair (.list false TQuotak) (.pair (.list false (.pair (.int .i64) (.pair (.int .i64) (.pair (.int .i64) (.pair (.int .i64) (.pair (.int .i64) (.pair (.int .i64) (.pair (.int .i64) (.pair (.list false (.int .i64)) (.pair (.list false TAclEntryk) (.list false TAclEntryk))))))))))) (.list false .str)))),.val (.int .i64)],[(.list true (.int .i64))],none⟩
abbrev s_impl_IsFS:Sig:=⟨[.val (.pair (.int .i64) (.pair (.list false TQuotak) (.pair (.list false (.pair (.int .i64) (.pair (.int .i64) (.pair (.int .i64) (.pair (.int .i64) (.pair (.int .i64) (.pair (.int .i64) (.pair (.int .i64) (.pair (.list false (.int .i64)) (.pair (.list false TAclEntryk) (.list false TAclEntryk))))))))))) (.list false .str))))],[.bool],none⟩
abbrev s_spec_l08Draw:Sig:=⟨[],[(.pair (.int .i64) (.pair (.list true TQuotak) (.pair (.list true TInodek) (.list true .str))))],some (true,Tl01Curk)⟩
abbrev s_impl_isUser:Sig:=⟨[.val (.int .i64)],[.bool],none⟩
abbrev s_impl_FS_nextInode:Sig:=⟨[.val (.ptr (.pair (.int .i64) (.pair (.list false TQuotak) (.pair (.list false (.pair (.int .i64) (.pair (.int .i64) (.pair (.int .i64) (.pair (.int .i64) (.pair (.int .i64) (.pair (.int .i64) (.pair (.int .i64) (.pair (.list false (.int .i64)) (.pair (.list false TAclEntryk) (.list false TAclEntryk))))))))))) (.list false .str))))),.val (.int .i64)],[(.int .i64),(.int .i64)],none⟩
abbrev s_impl_FS_nextBlock:Sig:=⟨[.val (.ptr (.pair (.int .i64) (.pair (.list false TQuotak) (.pair (.list false (.pair (.int .i64) (.pair (.int .i64) (.pair (.int .i64) (.pair (.int .i64) (.pair (.int .i64) (.pair (.int .i64) (.pair (.int .i64) (.pair (.list false (.int .i64)) (.pair (.list false TAclEntryk) (.list false TAclEntryk))))))))))) (.list false .str))))),.val (.int .i64)],[(.int .i64),(.int .i64)],none⟩
abbrev s_impl_FS_inodes:Sig:=⟨[.val (.ptr (.pair (.int .i64) (.pair (.list false TQuotak) (.pair (.list false (.pair (.int .i64) (.pair (.int .i64) (.pair (.int .i64) (.pair (.int .i64) (.pair (.int .i64) (.pair (.int .i64) (.pair (.int .i64) (.pair (.list false (.int .i64)) (.pair (.list false TAclEntryk) (.list false TAclEntryk))))))))))) (.list false .str))))),.val (.int .i64)],[(.int .i64)],none⟩
abbrev s_impl_FS_blocks:Sig:=⟨[.val (.ptr (.pair (.int .i64) (.pair (.list false TQuotak) (.pair (.list false (.pair (.int .i64) (.pair (.int .i64) (.pair (.int .i64) (.pair (.int .i64) (.pair (.int .i64) (.pair (.int .i64) (.pair (.int .i64) (.pair (.list false (.int .i64)) (.pair (.list false TAclEntryk) (.list false TAclEntryk))))))))))) (.list false .str))))),.val (.int .i64)],[(.int .i64)],none⟩
abbrev s_impl_FS_has:Sig:=⟨[.val (.ptr (.pair (.int .i64) (.pair (.list false TQuotak) (.pair (.list false (.pair (.int .i64) (.pair (.int .i64) (.pair (.int .i64) (.pair (.int .i64) (.pair (.int .i64) (.pair (.int .i64) (.pair (.int .i64) (.pair (.list false (.int .i64)) (.pair (.list false TAclEntryk) (.list false TAclEntryk))))))))))) (.list false .str))))),.val (.int .i64)],[.bool],none⟩
abbrev s_impl_IsInode:Sig:=⟨[.val (.pair (.int .i64) (.pair (.int .i64) (.pair (.int .i64) (.pair (.int .i64) (.pair (.int .i64) (.pair (.int .i64) (.pair (.int .i64) (.pair (.list false (.int .i64)) (.pair (.list false TAclEntryk) (.list false TAclEntryk))))))))))],[.bool],none⟩
abbrev s_spec_NewFS:Sig:=⟨[.val (.list false TQuotak)],[(.pair (.int .i64) (.pair (.list true TQuotak) (.pair (.list true TInodek) (.list true .str))))],none⟩
abbrev s_spec_l08Quotas:Sig:=⟨[],[(.list true TQuotak)],some (true,Tl01Curk)⟩
abbrev s_spec_l01Below:Sig:=⟨[.val (.int .i64)],[(.int .i64)],some (true,Tl01Curk)⟩
abbrev s_spec_l01Once:Sig:=⟨[.val (.int .i64)],[.bool],some (true,Tl01Curk)⟩
abbrev s_spec_l01Pick:Sig:=⟨[.val (.list false (.int .i64))],[(.int .i64)],some (true,Tl01Curk)⟩
abbrev s_spec_l08Add:Sig:=⟨[.val (.pair (.int .i64) (.pair (.list true TQuotak) (.pair (.list true TInodek) (.list true .str)))),.val (.int .i64),.val .str,.val (.int .i64),.val (.pair (.int .i64) (.pair (.int .i64) (.pair (.int .i64) (.pair (.int .i64) (.pair (.int .i64) (.pair (.int .i64) (.pair (.int .i64) (.pair (.list true .ti) (.pair (.list false TAclEntryk) (.list false TAclEntryk)))))))))),.val .str],[(.pair (.int .i64) (.pair (.list true TQuotak) (.pair (.list true TInodek) (.list true .str))))],none⟩
abbrev s_spec_l05Draw:Sig:=⟨[],[(.list true TAclEntryk)],some (true,Tl01Curk)⟩
abbrev s_spec_l02Bytes:Sig:=⟨[.val (.int .i64)],[.str],some (true,Tl01Curk)⟩
abbrev s_impl_FS_taken:Sig:=⟨[.val (.ptr (.pair (.int .i64) (.pair (.list false TQuotak) (.pair (.list false (.pair (.int .i64) (.pair (.int .i64) (.pair (.int .i64) (.pair (.int .i64) (.pair (.int .i64) (.pair (.int .i64) (.pair (.int .i64) (.pair (.list false (.int .i64)) (.pair (.list false TAclEntryk) (.list false TAclEntryk))))))))))) (.list false .str)))))],[(.list true .bool)],none⟩
abbrev s_impl_SameInode:Sig:=⟨[.val (.pair (.int .i64) (.pair (.int .i64) (.pair (.int .i64) (.pair (.int .i64) (.pair (.int .i64) (.pair (.int .i64) (.pair (.int .i64) (.pair (.list false (.int .i64)) (.pair (.list false TAclEntryk) (.list false TAclEntryk)))))))))),.val (.pair (.int .i64) (.pair (.int .i64) (.pair (.int .i64) (.pair (.int .i64) (.pair (.int .i64) (.pair (.int .i64) (.pair (.int .i64) (.pair (.list false (.int .i64)) (.pair (.list false TAclEntryk) (.list false TAclEntryk))))))))))],[.bool],none⟩
abbrev s_impl_isMode:Sig:=⟨[.val (.int .i64)],[.bool],none⟩
abbrev s_impl_BlocksNeeded:Sig:=⟨[.val (.int .i64)],[(.int .i64)],none⟩
abbrev s_impl_IsAcl:Sig:=⟨[.val (.list false TAclEntryk)],[.bool],none⟩
abbrev s_slices_Contains_int_int:Sig:=⟨[.val (.list false (.int .i64)),.val (.int .i64)],[.bool],none⟩
abbrev s_spec_PadTo:Sig:=⟨[.val .str,.val (.int .i64)],[.str],none⟩
abbrev s_spec_IsFS:Sig:=⟨[.val (.pair (.int .i64) (.pair (.list false TQuotak) (.pair (.list false (.pair (.int .i64) (.pair (.int .i64) (.pair (.int .i64) (.pair (.int .i64) (.pair (.int .i64) (.pair (.int .i64) (.pair (.int .i64) (.pair (.list false (.int .i64)) (.pair (.list false TAclEntryk) (.list false TAclEntryk))))))))))) (.list false .str))))],[.bool],none⟩
abbrev s_spec_l01Byte:Sig:=⟨[],[(.int .i64)],some (true,Tl01Curk)⟩
abbrev s_spec_CutAll:Sig:=⟨[.val .str,.val (.int .i64)],[(.list true .str)],none⟩
abbrev s_spec_l08NextBlock:Sig:=⟨[.val (.pair (.int .i64) (.pair (.list false TQuotak) (.pair (.list false (.pair (.int .i64) (.pair (.int .i64) (.pair (.int .i64) (.pair (.int .i64) (.pair (.int .i64) (.pair (.int .i64) (.pair (.int .i64) (.pair (.list false (.int .i64)) (.pair (.list false TAclEntryk) (.list false TAclEntryk))))))))))) (.list false .str)))),.val (.int .i64)],[(.int .i64),(.int .i64)],none⟩
abbrev s_spec_l07Copy:Sig:=⟨[.val TInodek],[TInodeo],none⟩
abbrev s_spec_l09Text:Sig:=⟨[.val (.pair (.int .i64) (.pair (.list false TQuotak) (.pair (.list false (.pair (.int .i64) (.pair (.int .i64) (.pair (.int .i64) (.pair (.int .i64) (.pair (.int .i64) (.pair (.int .i64) (.pair (.int .i64) (.pair (.list false (.int .i64)) (.pair (.list false TAclEntryk) (.list false TAclEntryk))))))))))) (.list false .str)))),.val (.pair (.int .i64) (.pair (.int .i64) (.pair (.int .i64) (.pair (.int .i64) (.pair (.int .i64) (.pair (.int .i64) (.pair (.int .i64) (.pair (.list false (.int .i64)) (.pair (.list false TAclEntryk) (.list false TAclEntryk))))))))))],[.str],none⟩
abbrev s_spec_PutNumber:Sig:=⟨[.val (.int .i64),.val (.int .i64)],[.str],none⟩
abbrev s_spec_BlocksNeeded:Sig:=⟨[.val (.int .i64)],[(.int .i64)],none⟩
abbrev s_impl_UsedBlocks:Sig:=⟨[.val (.pair (.int .i64) (.pair (.int .i64) (.pair (.int .i64) (.pair (.int .i64) (.pair (.int .i64) (.pair (.int .i64) (.pair (.int .i64) (.pair (.list false (.int .i64)) (.pair (.list false TAclEntryk) (.list false TAclEntryk))))))))))],[(.list true (.int .i64))],none⟩
abbrev s_slices_Equal_int_int:Sig:=⟨[.val (.list false (.int .i64)),.val (.list false (.int .i64))],[.bool],none⟩
abbrev s_slices_Equal_impl_AclEntry_impl_AclEntry:Sig:=⟨[.val (.list false TAclEntryk),.val (.list false TAclEntryk)],[.bool],none⟩
abbrev s_cmp_Or_int:Sig:=⟨[.val (.list false (.int .i64))],[(.int .i64)],none⟩
abbrev s_cmp_Compare_int:Sig:=⟨[.val (.int .i64),.val (.int .i64)],[(.int .i64)],none⟩
abbrev s_slices_Index_int_int:Sig:=⟨[.val (.list false (.int .i64)),.val (.int .i64)],[(.int .i64)],none⟩
abbrev s_spec_l01In:Sig:=⟨[.val (.int .i64),.val (.int .i64),.val (.int .i64)],[.bool],none⟩
abbrev s_spec_IsInode:Sig:=⟨[.val (.pair (.int .i64) (.pair (.int .i64) (.pair (.int .i64) (.pair (.int .i64) (.pair (.int .i64) (.pair (.int .i64) (.pair (.int .i64) (.pair (.list false (.int .i64)) (.pair (.list false TAclEntryk) (.list false TAclEntryk))))))))))],[.bool],none⟩
abbrev s_spec_l08Used:Sig:=⟨[.val (.pair (.int .i64) (.pair (.list false TQuotak) (.pair (.list false (.pair (.int .i64) (.pair (.int .i64) (.pair (.int .i64) (.pair (.int .i64) (.pair (.int .i64) (.pair (.int .i64) (.pair (.int .i64) (.pair (.list false (.int .i64)) (.pair (.list false TAclEntryk) (.list false TAclEntryk))))))))))) (.list false .str))))],[(.list true .bool),.bool],none⟩
abbrev s_spec_IsZeroes:Sig:=⟨[.val .str],[.bool],none⟩
abbrev s_spec_l08Blocks:Sig:=⟨[.val (.pair (.int .i64) (.pair (.list false TQuotak) (.pair (.list false (.pair (.int .i64) (.pair (.int .i64) (.pair (.int .i64) (.pair (.int .i64) (.pair (.int .i64) (.pair (.int .i64) (.pair (.int .i64) (.pair (.list false (.int .i64)) (.pair (.list false TAclEntryk) (.list false TAclEntryk))))))))))) (.list false .str)))),.val (.int .i64)],[(.int .i64)],none⟩
abbrev s_spec_l05Copy:Sig:=⟨[.val (.list false TAclEntryk)],[(.list true TAclEntryk)],none⟩
abbrev s_cmp_isNaN_int:Sig:=⟨[.val (.int .i64)],[.bool],none⟩
abbrev s_spec_SameInode:Sig:=⟨[.val (.pair (.int .i64) (.pair (.int .i64) (.pair (.int .i64) (.pair (.int .i64) (.pair (.int .i64) (.pair (.int .i64) (.pair (.int .i64) (.pair (.list false (.int .i64)) (.pair (.list false TAclEntryk) (.list false TAclEntryk)))))))))),.val (.pair (.int .i64) (.pair (.int .i64) (.pair (.int .i64) (.pair (.int .i64) (.pair (.int .i64) (.pair (.int .i64) (.pair (.int .i64) (.pair (.list false (.int .i64)) (.pair (.list false TAclEntryk) (.list false TAclEntryk))))))))))],[.bool],none⟩
abbrev s_spec_l06Mode:Sig:=⟨[.val (.int .i64)],[.bool],none⟩
abbrev s_spec_l06User:Sig:=⟨[.val (.int .i64)],[.bool],none⟩
abbrev s_spec_l02Has:Sig:=⟨[.val (.list false (.int .i64)),.val (.int .i64)],[.bool],none⟩
abbrev s_spec_IsAcl:Sig:=⟨[.val (.list false TAclEntryk)],[.bool],none⟩
abbrev s_spec_BlockOwner:Sig:=⟨[.val (.int .i64)],[(.int .i64)],none⟩
abbrev s_spec_l02Same:Sig:=⟨[.val (.list false (.int .i64)),.val (.list false (.int .i64))],[.bool],none⟩
abbrev s_spec_l05Same:Sig:=⟨[.val (.list false TAclEntryk),.val (.list false TAclEntryk)],[.bool],none⟩
abbrev s_spec_l05Entry:Sig:=⟨[.val TAclEntryk],[.bool],none⟩
noncomputable def exts:List ExtE:=[]
noncomputable def tab:Tab:={
 ty:=[(2,(.int .i64)),(3,(.int .i64)),(4,.bool),(5,(.int .u8)),(6,(.int .u8)),(9,.str),(22,(.list false (.int .u8))),(23,(.list false TQuotak)),(24,(.list false TInodek)),(25,(.list false .str)),(27,TFSk),(31,(.list false .ti)),(32,(.list false TAclEntryk)),(34,TInodek),(39,TQuotak),(44,(.ptr Tl01Curk)),(48,(.arr 56 .bool)),(59,Tl01Curk),(60,(.ptr TFSk)),(61,(.list false .bool)),(73,TAclEntryk),(83,(.int .u64))],
 nf:=[(27,4),(34,10),(39,2),(59,3),(73,3)],
 el:=[(22,5,1),(23,39,16),(24,34,128),(25,9,16),(31,3,8),(32,73,24),(61,4,1)],
 fnT:=[1],
 eqs:=[39,73],
 sig:=[(3,s_laws_FnPools),(4,s_spec_MakeFS),(5,s_impl_NextInode),(6,s_impl_NextBlock),(7,s_impl_BlockOwner),(8,s_impl_IsZeroes),(9,s_impl_InodesOf),(10,s_impl_BlocksOf),(11,s_impl_PoolOf),(12,s_impl_IsFS),(13,s_spec_l08Draw),(15,s_impl_isUser),(16,s_impl_FS_nextInode),(17,s_impl_FS_nextBlock),(18,s_impl_FS_inodes),(19,s_impl_FS_blocks),(20,s_impl_FS_has),(21,s_impl_IsInode),(22,s_spec_NewFS),(23,s_spec_l08Quotas),(24,s_spec_l01Below),(25,s_spec_l01Once),(26,s_spec_l01Pick),(27,s_spec_l08Add),(28,s_spec_l05Draw),(29,s_spec_l02Bytes),(30,s_impl_FS_taken),(31,s_impl_SameInode),(32,s_impl_isMode),(33,s_impl_BlocksNeeded),(34,s_impl_IsAcl),(35,s_slices_Contains_int_int),(36,s_spec_PadTo),(37,s_spec_IsFS),(38,s_spec_l01Byte),(39,s_spec_CutAll),(40,s_spec_l08NextBlock),(41,s_spec_l07Copy),(42,s_spec_l09Text),(43,s_spec_PutNumber),(44,s_spec_BlocksNeeded),(45,s_impl_UsedBlocks),(46,s_slices_Equal_int_int),(47,s_slices_Equal_impl_AclEntry_impl_AclEntry),(48,s_cmp_Or_int),(49,s_cmp_Compare_int),(50,s_slices_Index_int_int),(51,s_spec_l01In),(52,s_spec_IsInode),(53,s_spec_l08Used),(54,s_spec_IsZeroes),(55,s_spec_l08Blocks),(56,s_spec_l05Copy),(57,s_cmp_isNaN_int),(58,s_spec_SameInode),(59,s_spec_l06Mode),(60,s_spec_l06User),(61,s_spec_l02Has),(62,s_spec_IsAcl),(63,s_spec_BlockOwner),(64,s_spec_l02Same),(65,s_spec_l05Same),(66,s_spec_l05Entry)],
 body:=[(3,Try.f3),(4,Try.f4),(5,Try.f5),(6,Try.f6),(7,Try.f7),(8,Try.f8),(9,Try.f9),(10,Try.f10),(11,Try.f11),(12,Try.f12),(13,Try.f13),(14,Try.f14),(15,Try.f15),(16,Try.f16),(17,Try.f17),(18,Try.f18),(19,Try.f19),(20,Try.f20),(21,Try.f21),(22,Try.f22),(23,Try.f23),(24,Try.f24),(25,Try.f25),(26,Try.f26),(27,Try.f27),(28,Try.f28),(29,Try.f29),(30,Try.f30),(31,Try.f31),(32,Try.f32),(33,Try.f33),(34,Try.f34),(35,Try.f35),(36,Try.f36),(37,Try.f37),(38,Try.f38),(39,Try.f39),(40,Try.f40),(41,Try.f41),(42,Try.f42),(43,Try.f43),(44,Try.f44),(45,Try.f45),(46,Try.f46),(47,Try.f47),(48,Try.f48),(49,Try.f49),(50,Try.f50),(51,Try.f51),(52,Try.f52),(53,Try.f53),(54,Try.f54),(55,Try.f55),(56,Try.f56),(57,Try.f57),(58,Try.f58),(59,Try.f59),(60,Try.f60),(61,Try.f61),(62,Try.f62),(63,Try.f63),(64,Try.f64),(65,Try.f65),(66,Try.f66)]}
noncomputable def E1:Env:=tab.env (extOf exts)
noncomputable def H1:Nat→Hints:=fun f=>(Eng.look [(3,⟨fun r=>(Eng.look [(5,[(3,none),(4,none)])] r).getD [],fun r=>Eng.look [(11,[(3,none),(4,none),(6,none),(7,none),(8,none)]),(13,[(3,none),(4,none),(6,none),(8,none)])] r⟩),
 (8,⟨fun r=>(Eng.look [(2,[(0,none),(5,none),(6,none)])] r).getD [],fun r=>Eng.look [] r⟩),
 (11,⟨fun r=>(Eng.look [(5,[(1,none),(2,none),(5,none),(6,none)])] r).getD [],fun r=>Eng.look [] r⟩),
 (12,⟨fun r=>(Eng.look [(4,[(1,none),(42,none),(43,none),(44,none)]),(10,[(1,none),(68,none),(69,none),(70,none)]),(17,[(1,none),(7,none),(79,none),(80,none),(81,none)]),(22,[(1,none),(7,none),(9,none),(79,none),(80,none),(81,none),(89,none),(90,none),(91,none)]),(34,[(1,none),(7,none),(131,none),(132,none),(133,none)])] r).getD [],fun r=>Eng.look [] r⟩),
 (14,⟨fun r=>(Eng.look [(3,[(0,none),(3,none),(4,none)])] r).getD [],fun r=>Eng.look [] r⟩),
 (16,⟨fun r=>(Eng.look [(4,[(0,none),(1,none),(6,none)])] r).getD [],fun r=>Eng.look [] r⟩),
 (17,⟨fun r=>(Eng.look [(5,[(1,none),(6,none),(7,none)])] r).getD [],fun r=>Eng.look [] r⟩),
 (18,⟨fun r=>(Eng.look [(3,[(5,none),(17,none),(18,none),(19,none)])] r).getD [],fun r=>Eng.look [] r⟩),
 (19,⟨fun r=>(Eng.look [(3,[(5,none),(15,none),(16,none),(17,none)])] r).getD [],fun r=>Eng.look [] r⟩),
 (21,⟨fun r=>(Eng.look [(10,[(1,none),(83,none),(84,none),(85,none)])] r).getD [],fun r=>Eng.look [(7,[(1,none)])] r⟩),
 (22,⟨fun r=>(Eng.look [(3,[(2,none),(3,none),(1032792,some (.pair (.int .i64) (.pair (.list true TQuotak) (.pair (.list true TInodek) (.list true .str)))))])] r).getD [],fun r=>Eng.look [] r⟩),
 (23,⟨fun r=>(Eng.look [(3,[(0,none),(3,none),(4,none)])] r).getD [],fun r=>Eng.look [] r⟩),
 (27,⟨fun r=>(Eng.look [(2,[(1,none),(2,none),(3,none),(6,none),(10,none),(12,none),(28,none),(29,none),(30,none),(1032816,some (.pair (.int .i64) (.pair (.list true TQuotak) (.pair (.list true TInodek) (.list true .str))))),(1032848,some (.pair (.int .i64) (.pair (.int .i64) (.pair (.int .i64) (.pair (.int .i64) (.pair (.int .i64) (.pair (.int .i64) (.pair (.int .i64) (.pair (.list true .ti) (.pair (.list false TAclEntryk) (.list false TAclEntryk))))))))))),(1032904,some TInodek)]),(22,[(6,none),(12,none),(118,none),(119,none),(120,none),(1032816,some (.pair (.int .i64) (.pair (.list true TQuotak) (.pair (.list true TInodek) (.list true .str))))),(1032848,some (.pair (.int .i64) (.pair (.int .i64) (.pair (.int .i64) (.pair (.int .i64) (.pair (.int .i64) (.pair (.int .i64) (.pair (.int .i64) (.pair (.list true .ti) (.pair (.list false TAclEntryk) (.list false TAclEntryk))))))))))),(1032904,some TInodek)]),(29,[(1,none),(6,none),(12,none),(17,none),(19,none),(138,none),(139,none),(140,none),(1032816,some (.pair (.int .i64) (.pair (.list true TQuotak) (.pair (.list true TInodek) (.list true .str))))),(1032848,some (.pair (.int .i64) (.pair (.int .i64) (.pair (.int .i64) (.pair (.int .i64) (.pair (.int .i64) (.pair (.int .i64) (.pair (.int .i64) (.pair (.list true .ti) (.pair (.list false TAclEntryk) (.list false TAclEntryk))))))))))),(1032904,some TInodek)])] r).getD [],fun r=>Eng.look [(11,[(1,none),(2,none),(3,none),(6,none),(10,none),(12,none),(1032816,some (.pair (.int .i64) (.pair (.list true TQuotak) (.pair (.list true TInodek) (.list true .str))))),(1032848,some (.pair (.int .i64) (.pair (.int .i64) (.pair (.int .i64) (.pair (.int .i64) (.pair (.int .i64) (.pair (.int .i64) (.pair (.int .i64) (.pair (.list true .ti) (.pair (.list false TAclEntryk) (.list false TAclEntryk))))))))))),(1032904,some TInodek)]),(28,[(1,none),(6,none),(12,none),(17,none),(19,none),(1032816,some (.pair (.int .i64) (.pair (.list true TQuotak) (.pair (.list true TInodek) (.list true .str))))),(1032848,some (.pair (.int .i64) (.pair (.int .i64) (.pair (.int .i64) (.pair (.int .i64) (.pair (.int .i64) (.pair (.int .i64) (.pair (.int .i64) (.pair (.list true .ti) (.pair (.list false TAclEntryk) (.list false TAclEntryk))))))))))),(1032904,some TInodek)])] r⟩),
 (28,⟨fun r=>(Eng.look [(5,[(0,none),(3,none),(4,none)]),(8,[(0,none),(3,none),(4,none),(5,none)])] r).getD [],fun r=>Eng.look [] r⟩),
 (29,⟨fun r=>(Eng.look [(3,[(0,none),(5,none),(6,none)])] r).getD [],fun r=>Eng.look [] r⟩),
 (30,⟨fun r=>(Eng.look [(3,[(3,none),(12,none),(13,none),(14,none)]),(6,[(3,none),(12,none),(13,none),(14,none),(19,none),(20,none),(21,none)])] r).getD [],fun r=>Eng.look [] r⟩),
 (34,⟨fun r=>(Eng.look [(4,[(0,none),(8,none),(9,none),(10,none)])] r).getD [],fun r=>Eng.look [(17,[(0,none),(3,none),(4,none),(8,none),(9,none),(10,none)])] r⟩),
 (36,⟨fun r=>(Eng.look [(4,[(1,none),(5,none)])] r).getD [],fun r=>Eng.look [] r⟩),
 (37,⟨fun r=>(Eng.look [(4,[(1,none),(37,none),(38,none),(39,none)]),(10,[(1,none),(55,none),(56,none),(57,none)]),(21,[(1,none),(7,none),(79,none),(80,none),(81,none)]),(27,[(1,none),(103,none),(104,none),(105,none)])] r).getD [],fun r=>Eng.look [] r⟩),
 (39,⟨fun r=>(Eng.look [(4,[(0,none),(1,none),(5,none)])] r).getD [],fun r=>Eng.look [] r⟩),
 (40,⟨fun r=>(Eng.look [(6,[(1,none),(7,none),(9,none)])] r).getD [],fun r=>Eng.look [] r⟩),
 (42,⟨fun r=>(Eng.look [(3,[(2,none),(3,none),(5,none),(9,none),(10,none),(11,none)])] r).getD [],fun r=>Eng.look [] r⟩),
 (43,⟨fun r=>(Eng.look [(5,[(0,none),(5,none),(6,none)])] r).getD [],fun r=>Eng.look [] r⟩),
 (45,⟨fun r=>(Eng.look [(3,[(3,none),(8,none),(9,none),(10,none)])] r).getD [],fun r=>Eng.look [] r⟩),
 (46,⟨fun r=>(Eng.look [(4,[(0,none),(1,none),(12,none),(13,none)])] r).getD [],fun r=>Eng.look [] r⟩),
 (47,⟨fun r=>(Eng.look [(4,[(0,none),(1,none),(12,none),(13,none)])] r).getD [],fun r=>Eng.look [] r⟩),
 (48,⟨fun r=>(Eng.look [(3,[(3,none),(6,none),(7,none),(8,none)])] r).getD [],fun r=>Eng.look [] r⟩),
 (50,⟨fun r=>(Eng.look [(2,[(0,none),(1,none),(7,none),(8,none)])] r).getD [],fun r=>Eng.look [] r⟩),
 (52,⟨fun r=>(Eng.look [(6,[(1,none),(65,none),(66,none),(67,none)])] r).getD [],fun r=>Eng.look [(5,[(1,none)]),(13,[(1,none)])] r⟩),
 (53,⟨fun r=>(Eng.look [(3,[(4,none),(11,none),(12,none),(13,none)]),(6,[(4,none),(6,none),(11,none),(12,none),(13,none),(18,none),(19,none),(20,none)])] r).getD [],fun r=>Eng.look [] r⟩),
 (54,⟨fun r=>(Eng.look [(2,[(0,none),(3,none)])] r).getD [],fun r=>Eng.look [] r⟩),
 (55,⟨fun r=>(Eng.look [(3,[(1,none),(5,none),(11,none),(12,none),(13,none)]),(6,[(1,none),(5,none),(11,none),(12,none),(13,none),(18,none),(19,none),(20,none)])] r).getD [],fun r=>Eng.look [] r⟩),
 (61,⟨fun r=>(Eng.look [(2,[(1,none),(7,none),(8,none),(9,none)])] r).getD [],fun r=>Eng.look [] r⟩),
 (62,⟨fun r=>(Eng.look [(2,[(0,none),(6,none),(7,none),(8,none)])] r).getD [],fun r=>Eng.look [] r⟩),
 (64,⟨fun r=>(Eng.look [(4,[(1,none),(12,none),(13,none),(14,none)])] r).getD [],fun r=>Eng.look [] r⟩),
 (65,⟨fun r=>(Eng.look [(4,[(1,none),(12,none),(13,none),(14,none)])] r).getD [],fun r=>Eng.look [] r⟩)] f).getD ⟨fun _=>[],fun _=>none⟩
noncomputable def c_laws_FnPools(k:Nat)(x:(List Int)):Option Bool:=runF E1 H1 k 3 s_laws_FnPools x
noncomputable def c_spec_MakeFS(k:Nat)(x:(List Int)):Option DFS:=runF E1 H1 k 4 s_spec_MakeFS x
noncomputable def c_impl_NextInode(k:Nat)(x:(DFS×Int)):Option DQuota:=runF E1 H1 k 5 s_impl_NextInode x
noncomputable def c_impl_NextBlock(k:Nat)(x:(DFS×Int)):Option DQuota:=runF E1 H1 k 6 s_impl_NextBlock x
noncomputable def c_impl_BlockOwner(k:Nat)(x:Int):Option Int:=runF E1 H1 k 7 s_impl_BlockOwner x
noncomputable def c_impl_IsZeroes(k:Nat)(x:ByteArray):Option Bool:=runF E1 H1 k 8 s_impl_IsZeroes x
noncomputable def c_impl_InodesOf(k:Nat)(x:(DFS×Int)):Option Int:=runF E1 H1 k 9 s_impl_InodesOf x
noncomputable def c_impl_BlocksOf(k:Nat)(x:(DFS×Int)):Option Int:=runF E1 H1 k 10 s_impl_BlocksOf x
noncomputable def c_impl_PoolOf(k:Nat)(x:(DFS×Int)):Option (List Int):=runF E1 H1 k 11 s_impl_PoolOf x
noncomputable def c_impl_IsFS(k:Nat)(x:DFS):Option Bool:=runF E1 H1 k 12 s_impl_IsFS x
noncomputable def c_spec_l08Draw(k:Nat)(x:Dl01Cur):Option (DFS×Dl01Cur):=runF E1 H1 k 13 s_spec_l08Draw x
noncomputable def c_impl_isUser(k:Nat)(x:Int):Option Bool:=runF E1 H1 k 15 s_impl_isUser x
noncomputable def c_impl_FS_nextInode(k:Nat)(x:((Option DFS)×Int)):Option DQuota:=runF E1 H1 k 16 s_impl_FS_nextInode x
noncomputable def c_impl_FS_nextBlock(k:Nat)(x:((Option DFS)×Int)):Option DQuota:=runF E1 H1 k 17 s_impl_FS_nextBlock x
noncomputable def c_impl_FS_inodes(k:Nat)(x:((Option DFS)×Int)):Option Int:=runF E1 H1 k 18 s_impl_FS_inodes x
noncomputable def c_impl_FS_blocks(k:Nat)(x:((Option DFS)×Int)):Option Int:=runF E1 H1 k 19 s_impl_FS_blocks x
noncomputable def c_impl_FS_has(k:Nat)(x:((Option DFS)×Int)):Option Bool:=runF E1 H1 k 20 s_impl_FS_has x
noncomputable def c_impl_IsInode(k:Nat)(x:DInode):Option Bool:=runF E1 H1 k 21 s_impl_IsInode x
noncomputable def c_spec_NewFS(k:Nat)(x:(List DQuota)):Option DFS:=runF E1 H1 k 22 s_spec_NewFS x
noncomputable def c_spec_l08Quotas(k:Nat)(x:Dl01Cur):Option ((List DQuota)×Dl01Cur):=runF E1 H1 k 23 s_spec_l08Quotas x
noncomputable def c_spec_l01Below(k:Nat)(x:(Dl01Cur×Int)):Option (Int×Dl01Cur):=runF E1 H1 k 24 s_spec_l01Below x
noncomputable def c_spec_l01Once(k:Nat)(x:(Dl01Cur×Int)):Option (Bool×Dl01Cur):=runF E1 H1 k 25 s_spec_l01Once x
noncomputable def c_spec_l01Pick(k:Nat)(x:(Dl01Cur×(List Int))):Option (Int×Dl01Cur):=runF E1 H1 k 26 s_spec_l01Pick x
noncomputable def c_spec_l08Add(k:Nat)(x:(DFS×(Int×(ByteArray×(Int×(DInode×ByteArray)))))):Option DFS:=runF E1 H1 k 27 s_spec_l08Add x
noncomputable def c_spec_l05Draw(k:Nat)(x:Dl01Cur):Option ((List DAclEntry)×Dl01Cur):=runF E1 H1 k 28 s_spec_l05Draw x
noncomputable def c_spec_l02Bytes(k:Nat)(x:(Dl01Cur×Int)):Option (ByteArray×Dl01Cur):=runF E1 H1 k 29 s_spec_l02Bytes x
noncomputable def c_impl_FS_taken(k:Nat)(x:(Option DFS)):Option (List Bool):=runF E1 H1 k 30 s_impl_FS_taken x
noncomputable def c_impl_SameInode(k:Nat)(x:(DInode×DInode)):Option Bool:=runF E1 H1 k 31 s_impl_SameInode x
noncomputable def c_impl_isMode(k:Nat)(x:Int):Option Bool:=runF E1 H1 k 32 s_impl_isMode x
noncomputable def c_impl_BlocksNeeded(k:Nat)(x:Int):Option Int:=runF E1 H1 k 33 s_impl_BlocksNeeded x
noncomputable def c_impl_IsAcl(k:Nat)(x:(List DAclEntry)):Option Bool:=runF E1 H1 k 34 s_impl_IsAcl x
noncomputable def c_slices_Contains_int_int(k:Nat)(x:((List Int)×Int)):Option Bool:=runF E1 H1 k 35 s_slices_Contains_int_int x
noncomputable def c_spec_PadTo(k:Nat)(x:DerrorAddressString):Option ByteArray:=runF E1 H1 k 36 s_spec_PadTo x
noncomputable def c_spec_IsFS(k:Nat)(x:DFS):Option Bool:=runF E1 H1 k 37 s_spec_IsFS x
noncomputable def c_spec_l01Byte(k:Nat)(x:Dl01Cur):Option (Int×Dl01Cur):=runF E1 H1 k 38 s_spec_l01Byte x
noncomputable def c_spec_CutAll(k:Nat)(x:DerrorAddressString):Option (List ByteArray):=runF E1 H1 k 39 s_spec_CutAll x
noncomputable def c_spec_l08NextBlock(k:Nat)(x:(DFS×Int)):Option DQuota:=runF E1 H1 k 40 s_spec_l08NextBlock x
noncomputable def c_spec_l07Copy(k:Nat)(x:DInode):Option DInode:=runF E1 H1 k 41 s_spec_l07Copy x
noncomputable def c_spec_l09Text(k:Nat)(x:(DFS×DInode)):Option ByteArray:=runF E1 H1 k 42 s_spec_l09Text x
noncomputable def c_spec_PutNumber(k:Nat)(x:DQuota):Option ByteArray:=runF E1 H1 k 43 s_spec_PutNumber x
noncomputable def c_spec_BlocksNeeded(k:Nat)(x:Int):Option Int:=runF E1 H1 k 44 s_spec_BlocksNeeded x
noncomputable def c_impl_UsedBlocks(k:Nat)(x:DInode):Option (List Int):=runF E1 H1 k 45 s_impl_UsedBlocks x
noncomputable def c_slices_Equal_int_int(k:Nat)(x:((List Int)×(List Int))):Option Bool:=runF E1 H1 k 46 s_slices_Equal_int_int x
noncomputable def c_slices_Equal_impl_AclEntry_impl_AclEntry(k:Nat)(x:((List DAclEntry)×(List DAclEntry))):Option Bool:=runF E1 H1 k 47 s_slices_Equal_impl_AclEntry_impl_AclEntry x
noncomputable def c_cmp_Or_int(k:Nat)(x:(List Int)):Option Int:=runF E1 H1 k 48 s_cmp_Or_int x
noncomputable def c_cmp_Compare_int(k:Nat)(x:DQuota):Option Int:=runF E1 H1 k 49 s_cmp_Compare_int x
noncomputable def c_slices_Index_int_int(k:Nat)(x:((List Int)×Int)):Option Int:=runF E1 H1 k 50 s_slices_Index_int_int x
noncomputable def c_spec_l01In(k:Nat)(x:DAclEntry):Option Bool:=runF E1 H1 k 51 s_spec_l01In x
noncomputable def c_spec_IsInode(k:Nat)(x:DInode):Option Bool:=runF E1 H1 k 52 s_spec_IsInode x
noncomputable def c_spec_l08Used(k:Nat)(x:DFS):Option ((List Bool)×Bool):=runF E1 H1 k 53 s_spec_l08Used x
noncomputable def c_spec_IsZeroes(k:Nat)(x:ByteArray):Option Bool:=runF E1 H1 k 54 s_spec_IsZeroes x
noncomputable def c_spec_l08Blocks(k:Nat)(x:(DFS×Int)):Option Int:=runF E1 H1 k 55 s_spec_l08Blocks x
noncomputable def c_spec_l05Copy(k:Nat)(x:(List DAclEntry)):Option (List DAclEntry):=runF E1 H1 k 56 s_spec_l05Copy x
noncomputable def c_cmp_isNaN_int(k:Nat)(x:Int):Option Bool:=runF E1 H1 k 57 s_cmp_isNaN_int x
noncomputable def c_spec_SameInode(k:Nat)(x:(DInode×DInode)):Option Bool:=runF E1 H1 k 58 s_spec_SameInode x
noncomputable def c_spec_l06Mode(k:Nat)(x:Int):Option Bool:=runF E1 H1 k 59 s_spec_l06Mode x
noncomputable def c_spec_l06User(k:Nat)(x:Int):Option Bool:=runF E1 H1 k 60 s_spec_l06User x
noncomputable def c_spec_l02Has(k:Nat)(x:((List Int)×Int)):Option Bool:=runF E1 H1 k 61 s_spec_l02Has x
noncomputable def c_spec_IsAcl(k:Nat)(x:(List DAclEntry)):Option Bool:=runF E1 H1 k 62 s_spec_IsAcl x
noncomputable def c_spec_BlockOwner(k:Nat)(x:Int):Option Int:=runF E1 H1 k 63 s_spec_BlockOwner x
noncomputable def c_spec_l02Same(k:Nat)(x:((List Int)×(List Int))):Option Bool:=runF E1 H1 k 64 s_spec_l02Same x
noncomputable def c_spec_l05Same(k:Nat)(x:((List DAclEntry)×(List DAclEntry))):Option Bool:=runF E1 H1 k 65 s_spec_l05Same x
noncomputable def c_spec_l05Entry(k:Nat)(x:DAclEntry):Option Bool:=runF E1 H1 k 66 s_spec_l05Entry x
end Go.Proofs.Ytkmnlefjlhogaaa
