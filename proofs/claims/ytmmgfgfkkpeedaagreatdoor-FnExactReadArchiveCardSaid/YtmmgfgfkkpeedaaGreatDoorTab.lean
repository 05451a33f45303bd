/- The tables, the residual functions and lemmas of this seat: parts of the proof of the law; conditions: those that each names. -/
import Derived.Test.YtmmgfgfkkpeedaaGreatDoorEng7
import Derived.KernelRfl
import Derived.Test.YtmmgfgfkkpeedaaGreatDoorProg
set_option maxRecDepth 100000
namespace Go.Proofs.YtmmgfgfkkpeedaaGreatDoor
open Go.Eng
abbrev DacceptRange:Type:=(Int×Int)
abbrev DerrorAddressString:Type:=(ByteArray×Int)
abbrev DAclEntry:Type:=(Int×DacceptRange)
abbrev DboundsError:Type:=(Int×(Int×(Bool×Int)))
abbrev DArchiveItem:Type:=(Bool×(ByteArray×(Int×((List DAclEntry)×ByteArray))))
abbrev TerrorAddressStringk:Ty:=(.pair .str (.int .u64))
abbrev TacceptRangek:Ty:=(.pair (.int .u8) (.int .u8))
abbrev TAclEntryk:Ty:=(.pair (.int .i64) (.pair (.int .i64) (.int .i64)))
abbrev TboundsErrork:Ty:=(.pair (.int .i64) (.pair (.int .i64) (.pair .bool (.int .u8))))
abbrev TArchiveItemo:Ty:=(.pair .bool (.pair .str (.pair (.int .i64) (.pair (.list true TAclEntryk) .str))))
abbrev TArchiveItemk:Ty:=(.pair .bool (.pair .str (.pair (.int .i64) (.pair (.list false TAclEntryk) .str))))
abbrev s_laws_FnExactReadArchive:Sig:=⟨[.val .str],[.bool],none⟩
abbrev s_spec_ReadArchive:Sig:=⟨[.val .str],[(.list true TArchiveItemo),.bool],none⟩
abbrev s_impl_ReadArchive:Sig:=⟨[.val .str],[(.list true TArchiveItemo),.bool],none⟩
abbrev s_laws_eqArchiveItemS:Sig:=⟨[.val (.list false TArchiveItemk),.val (.list false TArchiveItemk)],[.bool],none⟩
abbrev s_laws_markArchiveItemS:Sig:=⟨[.val (.int .i64)],[(.int .i64)],some (false,(.list true TArchiveItemo))⟩
abbrev s_laws_heldArchiveItemS:Sig:=⟨[.val (.list false TArchiveItemk),.val (.int .i64)],[(.int .i64)],none⟩
abbrev s_spec_SplitLines:Sig:=⟨[.val .str],[(.list true .str)],none⟩
abbrev s_spec_SplitAny:Sig:=⟨[.val .str,.val .str],[(.list true .str)],none⟩
abbrev s_spec_ParseMode:Sig:=⟨[.val .str],[(.int .i64),.bool],none⟩
abbrev s_spec_ParseAcl:Sig:=⟨[.val .str],[(.list true TAclEntryk),.bool],none⟩
abbrev s_spec_UnhexText:Sig:=⟨[.val .str],[.str,.bool],none⟩
abbrev s_spec_FormatItem:Sig:=⟨[.val TArchiveItemk],[.str],none⟩
abbrev s_spec_l23Text:Sig:=⟨[.val (.list false .str)],[.str],none⟩
abbrev s_strings_HasSuffix:Sig:=⟨[.val .str,.val .str],[.bool],none⟩
abbrev s_impl_SplitLines:Sig:=⟨[.val .str],[(.list true .str)],none⟩
abbrev s_impl_readItem:Sig:=⟨[.val .str],[TArchiveItemo,.bool],none⟩
abbrev s_laws_eqArchiveItem:Sig:=⟨[.val TArchiveItemk,.val TArchiveItemk],[.bool],none⟩
abbrev s_laws_markText:Sig:=⟨[.val (.int .i64)],[.str],none⟩
abbrev s_laws_markAclEntryS:Sig:=⟨[.val (.int .i64)],[(.int .i64)],some (false,(.list true TAclEntryk))⟩
abbrev s_laws_heldAclEntryS:Sig:=⟨[.val (.list false TAclEntryk),.val (.int .i64)],[(.int .i64)],none⟩
abbrev s_spec_FormatMode:Sig:=⟨[.val (.int .i64)],[.str],none⟩
abbrev s_spec_ParseInt:Sig:=⟨[.val .str],[(.int .i64),.bool],none⟩
abbrev s_spec_FormatAcl:Sig:=⟨[.val (.list false TAclEntryk)],[.str],none⟩
abbrev s_spec_l23Path:Sig:=⟨[.val .str],[.bool],none⟩
abbrev s_spec_l06Mode:Sig:=⟨[.val (.int .i64)],[.bool],none⟩
abbrev s_spec_IsAcl:Sig:=⟨[.val (.list false TAclEntryk)],[.bool],none⟩
abbrev s_spec_Join:Sig:=⟨[.val (.list false .str),.val .str],[.str],none⟩
abbrev s_spec_HexOf:Sig:=⟨[.val .str],[.str],none⟩
abbrev s_strings_Split:Sig:=⟨[.val .str,.val .str],[(.list true .str)],none⟩
abbrev s_impl_SplitAny:Sig:=⟨[.val .str,.val .str],[(.list true .str)],none⟩
abbrev s_impl_ParseMode:Sig:=⟨[.val .str],[(.int .i64),.bool],none⟩
abbrev s_impl_ParseAcl:Sig:=⟨[.val .str],[(.list true TAclEntryk),.bool],none⟩
abbrev s_impl_UnhexText:Sig:=⟨[.val .str],[.str,.bool],none⟩
abbrev s_impl_FormatItem:Sig:=⟨[.val TArchiveItemk],[.str],none⟩
abbrev s_laws_eqAclEntryS:Sig:=⟨[.val (.list false TAclEntryk),.val (.list false TAclEntryk)],[.bool],none⟩
abbrev s_spec_l06Bit:Sig:=⟨[.val .bool,.val .str],[.str],none⟩
abbrev s_spec_PermOf:Sig:=⟨[.val (.int .i64),.val (.int .i64)],[(.int .i64)],none⟩
abbrev s_spec_IsDigits:Sig:=⟨[.val .str],[.bool],none⟩
abbrev s_spec_FormatInt:Sig:=⟨[.val (.int .i64)],[.str],none⟩
abbrev s_spec_l23Plain:Sig:=⟨[.val .str],[.bool],none⟩
abbrev s_spec_l01In:Sig:=⟨[.val (.int .i64),.val (.int .i64),.val (.int .i64)],[.bool],none⟩
abbrev s_spec_l05Entry:Sig:=⟨[.val TAclEntryk],[.bool],none⟩
abbrev s_strings_IndexByte:Sig:=⟨[.val .str,.val (.int .u8)],[(.int .i64)],none⟩
abbrev s_impl_FormatAcl:Sig:=⟨[.val (.list false TAclEntryk)],[.str],none⟩
abbrev s_impl_isItem:Sig:=⟨[.val TArchiveItemk],[.bool],none⟩
abbrev s_impl_FormatMode:Sig:=⟨[.val (.int .i64)],[.str],none⟩
abbrev s_impl_hexOr:Sig:=⟨[.val .str],[.str],none⟩
abbrev s_laws_eqAclEntry:Sig:=⟨[.val TAclEntryk,.val TAclEntryk],[.bool],none⟩
abbrev s_spec_IsEntryName:Sig:=⟨[.val .str],[.bool],none⟩
abbrev s_impl_IsAcl:Sig:=⟨[.val (.list false TAclEntryk)],[.bool],none⟩
abbrev s_impl_FormatInt:Sig:=⟨[.val (.int .i64)],[.str],none⟩
abbrev s_impl_Join:Sig:=⟨[.val (.list false .str),.val .str],[.str],none⟩
abbrev s_impl_IsEntryName:Sig:=⟨[.val .str],[.bool],none⟩
abbrev s_impl_isPlain:Sig:=⟨[.val .str],[.bool],none⟩
abbrev s_impl_isMode:Sig:=⟨[.val (.int .i64)],[.bool],none⟩
abbrev s_impl_HexOf:Sig:=⟨[.val .str],[.str],none⟩
abbrev s_impl_isUser:Sig:=⟨[.val (.int .i64)],[.bool],none⟩
abbrev s_cmp_Or_int:Sig:=⟨[.val (.list false (.int .i64))],[(.int .i64)],none⟩
abbrev s_cmp_Compare_int:Sig:=⟨[.val (.int .i64),.val (.int .i64)],[(.int .i64)],none⟩
abbrev s_strconv_Itoa:Sig:=⟨[.val (.int .i64)],[.str],none⟩
abbrev s_strings_Join:Sig:=⟨[.val (.list false .str),.val .str],[.str],none⟩
abbrev s_strings_ContainsAny:Sig:=⟨[.val .str,.val .str],[.bool],none⟩
abbrev s_cmp_isNaN_int:Sig:=⟨[.val (.int .i64)],[.bool],none⟩
noncomputable def exts:List ExtE:=[⟨16,s_strings_HasSuffix,ext_strings_HasSuffix⟩,⟨32,s_strings_Split,ext_strings_Split⟩,⟨47,s_strings_IndexByte,ext_strings_IndexByte⟩,⟨50,s_impl_FormatMode,ext_impl_FormatMode⟩,⟨73,s_strconv_Itoa,ext_strconv_Itoa⟩,⟨74,s_strings_Join,ext_strings_Join⟩,⟨75,s_strings_ContainsAny,ext_strings_ContainsAny⟩]
noncomputable def tab:Tab:={
 ty:=[(2,(.int .i64)),(3,(.int .i64)),(4,.bool),(5,(.int .u8)),(9,.str),(22,(.list false TArchiveItemk)),(28,(.list false .str)),(31,(.list false TAclEntryk)),(33,TArchiveItemk),(49,TAclEntryk),(51,(.list false (.int .u8))),(73,(.list false (.int .i64)))],
 nf:=[(33,5),(49,3)],
 el:=[(22,33,72),(28,9,16),(31,49,24),(51,5,1)],
 fnT:=[1],
 eqs:=[49],
 sig:=[(3,s_laws_FnExactReadArchive),(4,s_spec_ReadArchive),(5,s_impl_ReadArchive),(6,s_laws_eqArchiveItemS),(7,s_laws_markArchiveItemS),(8,s_laws_heldArchiveItemS),(9,s_spec_SplitLines),(10,s_spec_SplitAny),(11,s_spec_ParseMode),(12,s_spec_ParseAcl),(13,s_spec_UnhexText),(14,s_spec_FormatItem),(15,s_spec_l23Text),(16,s_strings_HasSuffix),(17,s_impl_SplitLines),(18,s_impl_readItem),(19,s_laws_eqArchiveItem),(20,s_laws_markText),(21,s_laws_markAclEntryS),(22,s_laws_heldAclEntryS),(23,s_spec_FormatMode),(24,s_spec_ParseInt),(25,s_spec_FormatAcl),(26,s_spec_l23Path),(27,s_spec_l06Mode),(28,s_spec_IsAcl),(29,s_spec_Join),(30,s_spec_HexOf),(32,s_strings_Split),(33,s_impl_SplitAny),(34,s_impl_ParseMode),(35,s_impl_ParseAcl),(36,s_impl_UnhexText),(37,s_impl_FormatItem),(38,s_laws_eqAclEntryS),(39,s_spec_l06Bit),(40,s_spec_PermOf),(41,s_spec_IsDigits),(42,s_spec_FormatInt),(43,s_spec_l23Plain),(44,s_spec_l01In),(45,s_spec_l05Entry),(47,s_strings_IndexByte),(48,s_impl_FormatAcl),(49,s_impl_isItem),(50,s_impl_FormatMode),(51,s_impl_hexOr),(52,s_laws_eqAclEntry),(53,s_spec_IsEntryName),(58,s_impl_IsAcl),(59,s_impl_FormatInt),(60,s_impl_Join),(61,s_impl_IsEntryName),(62,s_impl_isPlain),(63,s_impl_isMode),(64,s_impl_HexOf),(70,s_impl_isUser),(71,s_cmp_Or_int),(72,s_cmp_Compare_int),(73,s_strconv_Itoa),(74,s_strings_Join),(75,s_strings_ContainsAny),(80,s_cmp_isNaN_int)],
 body:=[(3,Tryz.f3),(4,Tryz.f4),(5,Tryz.f5),(6,Tryz.f6),(7,Tryz.f7),(8,Tryz.f8),(9,Tryz.f9),(10,Tryz.f10),(11,Tryz.f11),(12,Tryz.f12),(13,Tryz.f13),(14,Tryz.f14),(15,Tryz.f15),(17,Tryz.f17),(18,Tryz.f18),(19,Tryz.f19),(20,Tryz.f20),(21,Tryz.f21),(22,Tryz.f22),(23,Tryz.f23),(24,Tryz.f24),(25,Tryz.f25),(26,Tryz.f26),(27,Tryz.f27),(28,Tryz.f28),(29,Tryz.f29),(30,Tryz.f30),(33,Tryz.f33),(34,Tryz.f34),(35,Tryz.f35),(36,Tryz.f36),(37,Tryz.f37),(38,Tryz.f38),(39,Tryz.f39),(40,Tryz.f40),(41,Tryz.f41),(42,Tryz.f42),(43,Tryz.f43),(44,Tryz.f44),(45,Tryz.f45),(48,Tryz.f48),(49,Tryz.f49),(51,Tryz.f51),(52,Tryz.f52),(53,Tryz.f53),(58,Tryz.f58),(59,Tryz.f59),(60,Tryz.f60),(61,Tryz.f61),(62,Tryz.f62),(63,Tryz.f63),(64,Tryz.f64),(70,Tryz.f70),(71,Tryz.f71),(72,Tryz.f72),(80,Tryz.f80)]}
noncomputable def E1:Env:=tab.env (extOf exts)
noncomputable def H1:Nat→Hints:=fun f=>(Eng.look [(4,⟨fun r=>(Eng.look [(4,[(0,none),(4,none),(5,none),(13,none),(14,none),(15,none)])] r).getD [],fun r=>Eng.look [(14,[(0,none),(4,none),(5,none),(7,none),(9,none),(13,none),(14,none),(15,none)])] r⟩),
 (5,⟨fun r=>(Eng.look [(5,[(4,none),(18,none),(19,none),(20,none)])] r).getD [],fun r=>Eng.look [(3,[(0,none)])] r⟩),
 (6,⟨fun r=>(Eng.look [(4,[(0,none),(1,none),(5,none)])] r).getD [],fun r=>Eng.look [] r⟩),
 (7,⟨fun r=>(Eng.look [(2,[(0,none),(1,none),(5,none)])] r).getD [],fun r=>Eng.look [] r⟩),
 (8,⟨fun r=>(Eng.look [(2,[(0,none),(1,none),(5,none)])] r).getD [],fun r=>Eng.look [] r⟩),
 (10,⟨fun r=>(Eng.look [(4,[(0,none),(1,none),(5,none),(6,none),(7,none)]),(7,[(0,none),(1,none),(5,none),(6,none),(7,none),(8,none)])] r).getD [],fun r=>Eng.look [] r⟩),
 (11,⟨fun r=>(Eng.look [(3,[(0,none),(4,none),(5,none)])] r).getD [],fun r=>Eng.look [] r⟩),
 (12,⟨fun r=>(Eng.look [(3,[(0,none),(4,none),(11,none),(12,none),(13,none)])] r).getD [],fun r=>Eng.look [(17,[(0,none),(4,none),(7,none),(8,none),(11,none),(12,none),(13,none)])] r⟩),
 (13,⟨fun r=>(Eng.look [(5,[(0,none),(4,none),(5,none)]),(9,[(0,none),(4,none),(5,none),(6,none),(27,none),(28,none),(29,none)])] r).getD [],fun r=>Eng.look [] r⟩),
 (15,⟨fun r=>(Eng.look [(3,[(3,none),(6,none),(7,none),(8,none)])] r).getD [],fun r=>Eng.look [] r⟩),
 (18,⟨fun r=>(Eng.look [] r).getD [],fun r=>Eng.look [(4,[(0,none),(2,none),(4,none)]),(10,[(0,none),(2,none),(6,none),(8,none),(9,none),(10,none)])] r⟩),
 (20,⟨fun r=>(Eng.look [(4,[(0,none),(3,none)])] r).getD [],fun r=>Eng.look [] r⟩),
 (21,⟨fun r=>(Eng.look [(2,[(0,none),(1,none),(5,none)])] r).getD [],fun r=>Eng.look [] r⟩),
 (22,⟨fun r=>(Eng.look [(2,[(0,none),(1,none),(5,none)])] r).getD [],fun r=>Eng.look [] r⟩),
 (23,⟨fun r=>(Eng.look [(5,[(0,none),(3,none),(4,none)])] r).getD [],fun r=>Eng.look [] r⟩),
 (24,⟨fun r=>(Eng.look [(9,[(0,none),(4,none),(5,none),(6,none),(7,none)])] r).getD [],fun r=>Eng.look [(2,[(0,none),(4,some .bool)]),(5,[(0,none),(4,none),(5,none)]),(19,[(0,none),(6,none)])] r⟩),
 (25,⟨fun r=>(Eng.look [(5,[(3,none),(10,none),(11,none),(12,none)])] r).getD [],fun r=>Eng.look [] r⟩),
 (26,⟨fun r=>(Eng.look [(3,[(3,none),(8,none),(9,none),(10,none)])] r).getD [],fun r=>Eng.look [] r⟩),
 (28,⟨fun r=>(Eng.look [(2,[(0,none),(6,none),(7,none),(8,none)])] r).getD [],fun r=>Eng.look [] r⟩),
 (29,⟨fun r=>(Eng.look [(3,[(1,none),(5,none),(8,none),(9,none),(10,none)])] r).getD [],fun r=>Eng.look [] r⟩),
 (30,⟨fun r=>(Eng.look [(3,[(0,none),(3,none),(4,none)])] r).getD [],fun r=>Eng.look [] r⟩),
 (33,⟨fun r=>(Eng.look [(3,[(0,none),(1,none),(5,none),(6,none),(10,none),(11,none)])] r).getD [],fun r=>Eng.look [] r⟩),
 (34,⟨fun r=>(Eng.look [(5,[(0,none),(4,none),(10,none),(11,none)])] r).getD [],fun r=>Eng.look [] r⟩),
 (35,⟨fun r=>(Eng.look [(5,[(0,none),(4,none),(11,none),(12,none),(13,none)])] r).getD [],fun r=>Eng.look [] r⟩),
 (36,⟨fun r=>(Eng.look [(5,[(0,none),(4,none),(5,none)])] r).getD [],fun r=>Eng.look [] r⟩),
 (38,⟨fun r=>(Eng.look [(4,[(0,none),(1,none),(5,none)])] r).getD [],fun r=>Eng.look [] r⟩),
 (40,⟨fun r=>(Eng.look [(4,[(0,none),(5,none)])] r).getD [],fun r=>Eng.look [] r⟩),
 (41,⟨fun r=>(Eng.look [(2,[(0,none),(3,none)])] r).getD [],fun r=>Eng.look [] r⟩),
 (42,⟨fun r=>(Eng.look [(6,[(0,none),(3,none)])] r).getD [],fun r=>Eng.look [] r⟩),
 (43,⟨fun r=>(Eng.look [(2,[(0,none),(3,none)])] r).getD [],fun r=>Eng.look [] r⟩),
 (48,⟨fun r=>(Eng.look [(7,[(3,none),(13,none),(14,none),(15,none)])] r).getD [],fun r=>Eng.look [] r⟩),
 (49,⟨fun r=>(Eng.look [(3,[(1,none),(3,none),(9,none),(10,none),(11,none)])] r).getD [],fun r=>Eng.look [] r⟩),
 (53,⟨fun r=>(Eng.look [(4,[(0,none),(3,none)])] r).getD [],fun r=>Eng.look [] r⟩),
 (58,⟨fun r=>(Eng.look [(4,[(0,none),(8,none),(9,none),(10,none)])] r).getD [],fun r=>Eng.look [(17,[(0,none),(3,none),(4,none),(8,none),(9,none),(10,none)])] r⟩),
 (64,⟨fun r=>(Eng.look [(3,[(0,none),(3,none),(7,none),(8,none)])] r).getD [],fun r=>Eng.look [] r⟩),
 (71,⟨fun r=>(Eng.look [(3,[(3,none),(6,none),(7,none),(8,none)])] r).getD [],fun r=>Eng.look [] r⟩)] f).getD ⟨fun _=>[],fun _=>none⟩
noncomputable def c_laws_FnExactReadArchive(k:Nat)(x:ByteArray):Option Bool:=runF E1 H1 k 3 s_laws_FnExactReadArchive x
noncomputable def c_spec_ReadArchive(k:Nat)(x:ByteArray):Option ((List DArchiveItem)×Bool):=runF E1 H1 k 4 s_spec_ReadArchive x
noncomputable def c_impl_ReadArchive(k:Nat)(x:ByteArray):Option ((List DArchiveItem)×Bool):=runF E1 H1 k 5 s_impl_ReadArchive x
noncomputable def c_laws_eqArchiveItemS(k:Nat)(x:((List DArchiveItem)×(List DArchiveItem))):Option Bool:=runF E1 H1 k 6 s_laws_eqArchiveItemS x
noncomputable def c_laws_markArchiveItemS(k:Nat)(x:((List DArchiveItem)×Int)):Option (Int×(List DArchiveItem)):=runF E1 H1 k 7 s_laws_markArchiveItemS x
noncomputable def c_laws_heldArchiveItemS(k:Nat)(x:((List DArchiveItem)×Int)):Option Int:=runF E1 H1 k 8 s_laws_heldArchiveItemS x
noncomputable def c_spec_SplitLines(k:Nat)(x:ByteArray):Option (List ByteArray):=runF E1 H1 k 9 s_spec_SplitLines x
noncomputable def c_spec_SplitAny(k:Nat)(x:(ByteArray×ByteArray)):Option (List ByteArray):=runF E1 H1 k 10 s_spec_SplitAny x
noncomputable def c_spec_ParseMode(k:Nat)(x:ByteArray):Option (Int×Bool):=runF E1 H1 k 11 s_spec_ParseMode x
noncomputable def c_spec_ParseAcl(k:Nat)(x:ByteArray):Option ((List DAclEntry)×Bool):=runF E1 H1 k 12 s_spec_ParseAcl x
noncomputable def c_spec_UnhexText(k:Nat)(x:ByteArray):Option (ByteArray×Bool):=runF E1 H1 k 13 s_spec_UnhexText x
noncomputable def c_spec_FormatItem(k:Nat)(x:DArchiveItem):Option ByteArray:=runF E1 H1 k 14 s_spec_FormatItem x
noncomputable def c_spec_l23Text(k:Nat)(x:(List ByteArray)):Option ByteArray:=runF E1 H1 k 15 s_spec_l23Text x
noncomputable def c_strings_HasSuffix(k:Nat)(x:(ByteArray×ByteArray)):Option Bool:=runF E1 H1 k 16 s_strings_HasSuffix x
noncomputable def c_impl_SplitLines(k:Nat)(x:ByteArray):Option (List ByteArray):=runF E1 H1 k 17 s_impl_SplitLines x
noncomputable def c_impl_readItem(k:Nat)(x:ByteArray):Option (DArchiveItem×Bool):=runF E1 H1 k 18 s_impl_readItem x
noncomputable def c_laws_eqArchiveItem(k:Nat)(x:(DArchiveItem×DArchiveItem)):Option Bool:=runF E1 H1 k 19 s_laws_eqArchiveItem x
noncomputable def c_laws_markText(k:Nat)(x:Int):Option ByteArray:=runF E1 H1 k 20 s_laws_markText x
noncomputable def c_laws_markAclEntryS(k:Nat)(x:((List DAclEntry)×Int)):Option (Int×(List DAclEntry)):=runF E1 H1 k 21 s_laws_markAclEntryS x
noncomputable def c_laws_heldAclEntryS(k:Nat)(x:((List DAclEntry)×Int)):Option Int:=runF E1 H1 k 22 s_laws_heldAclEntryS x
noncomputable def c_spec_FormatMode(k:Nat)(x:Int):Option ByteArray:=runF E1 H1 k 23 s_spec_FormatMode x
noncomputable def c_spec_ParseInt(k:Nat)(x:ByteArray):Option (Int×Bool):=runF E1 H1 k 24 s_spec_ParseInt x
noncomputable def c_spec_FormatAcl(k:Nat)(x:(List DAclEntry)):Option ByteArray:=runF E1 H1 k 25 s_spec_FormatAcl x
noncomputable def c_spec_l23Path(k:Nat)(x:ByteArray):Option Bool:=runF E1 H1 k 26 s_spec_l23Path x
noncomputable def c_spec_l06Mode(k:Nat)(x:Int):Option Bool:=runF E1 H1 k 27 s_spec_l06Mode x
noncomputable def c_spec_IsAcl(k:Nat)(x:(List DAclEntry)):Option Bool:=runF E1 H1 k 28 s_spec_IsAcl x
noncomputable def c_spec_Join(k:Nat)(x:((List ByteArray)×ByteArray)):Option ByteArray:=runF E1 H1 k 29 s_spec_Join x
noncomputable def c_spec_HexOf(k:Nat)(x:ByteArray):Option ByteArray:=runF E1 H1 k 30 s_spec_HexOf x
noncomputable def c_strings_Split(k:Nat)(x:(ByteArray×ByteArray)):Option (List ByteArray):=runF E1 H1 k 32 s_strings_Split x
noncomputable def c_impl_SplitAny(k:Nat)(x:(ByteArray×ByteArray)):Option (List ByteArray):=runF E1 H1 k 33 s_impl_SplitAny x
noncomputable def c_impl_ParseMode(k:Nat)(x:ByteArray):Option (Int×Bool):=runF E1 H1 k 34 s_impl_ParseMode x
noncomputable def c_impl_ParseAcl(k:Nat)(x:ByteArray):Option ((List DAclEntry)×Bool):=runF E1 H1 k 35 s_impl_ParseAcl x
noncomputable def c_impl_UnhexText(k:Nat)(x:ByteArray):Option (ByteArray×Bool):=runF E1 H1 k 36 s_impl_UnhexText x
noncomputable def c_impl_FormatItem(k:Nat)(x:DArchiveItem):Option ByteArray:=runF E1 H1 k 37 s_impl_FormatItem x
noncomputable def c_laws_eqAclEntryS(k:Nat)(x:((List DAclEntry)×(List DAclEntry))):Option Bool:=runF E1 H1 k 38 s_laws_eqAclEntryS x
noncomputable def c_spec_l06Bit(k:Nat)(x:(Bool×ByteArray)):Option ByteArray:=runF E1 H1 k 39 s_spec_l06Bit x
noncomputable def c_spec_PermOf(k:Nat)(x:DacceptRange):Option Int:=runF E1 H1 k 40 s_spec_PermOf x
noncomputable def c_spec_IsDigits(k:Nat)(x:ByteArray):Option Bool:=runF E1 H1 k 41 s_spec_IsDigits x
noncomputable def c_spec_FormatInt(k:Nat)(x:Int):Option ByteArray:=runF E1 H1 k 42 s_spec_FormatInt x
noncomputable def c_spec_l23Plain(k:Nat)(x:ByteArray):Option Bool:=runF E1 H1 k 43 s_spec_l23Plain x
noncomputable def c_spec_l01In(k:Nat)(x:DAclEntry):Option Bool:=runF E1 H1 k 44 s_spec_l01In x
noncomputable def c_spec_l05Entry(k:Nat)(x:DAclEntry):Option Bool:=runF E1 H1 k 45 s_spec_l05Entry x
noncomputable def c_strings_IndexByte(k:Nat)(x:DerrorAddressString):Option Int:=runF E1 H1 k 47 s_strings_IndexByte x
noncomputable def c_impl_FormatAcl(k:Nat)(x:(List DAclEntry)):Option ByteArray:=runF E1 H1 k 48 s_impl_FormatAcl x
noncomputable def c_impl_isItem(k:Nat)(x:DArchiveItem):Option Bool:=runF E1 H1 k 49 s_impl_isItem x
noncomputable def c_impl_FormatMode(k:Nat)(x:Int):Option ByteArray:=runF E1 H1 k 50 s_impl_FormatMode x
noncomputable def c_impl_hexOr(k:Nat)(x:ByteArray):Option ByteArray:=runF E1 H1 k 51 s_impl_hexOr x
noncomputable def c_laws_eqAclEntry(k:Nat)(x:(DAclEntry×DAclEntry)):Option Bool:=runF E1 H1 k 52 s_laws_eqAclEntry x
noncomputable def c_spec_IsEntryName(k:Nat)(x:ByteArray):Option Bool:=runF E1 H1 k 53 s_spec_IsEntryName x
noncomputable def c_impl_IsAcl(k:Nat)(x:(List DAclEntry)):Option Bool:=runF E1 H1 k 58 s_impl_IsAcl x
noncomputable def c_impl_FormatInt(k:Nat)(x:Int):Option ByteArray:=runF E1 H1 k 59 s_impl_FormatInt x
noncomputable def c_impl_Join(k:Nat)(x:((List ByteArray)×ByteArray)):Option ByteArray:=runF E1 H1 k 60 s_impl_Join x
noncomputable def c_impl_IsEntryName(k:Nat)(x:ByteArray):Option Bool:=runF E1 H1 k 61 s_impl_IsEntryName x
noncomputable def c_impl_isPlain(k:Nat)(x:ByteArray):Option Bool:=runF E1 H1 k 62 s_impl_isPlain x
noncomputable def c_impl_isMode(k:Nat)(x:Int):Option Bool:=runF E1 H1 k 63 s_impl_isMode x
noncomputable def c_impl_HexOf(k:Nat)(x:ByteArray):Option ByteArray:=runF E1 H1 k 64 s_impl_HexOf x
noncomputable def c_impl_isUser(k:Nat)(x:Int):Option Bool:=runF E1 H1 k 70 s_impl_isUser x
noncomputable def c_cmp_Or_int(k:Nat)(x:(List Int)):Option Int:=runF E1 H1 k 71 s_cmp_Or_int x
noncomputable def c_cmp_Compare_int(k:Nat)(x:DacceptRange):Option Int:=runF E1 H1 k 72 s_cmp_Compare_int x
noncomputable def c_strconv_Itoa(k:Nat)(x:Int):Option ByteArray:=runF E1 H1 k 73 s_strconv_Itoa x
noncomputable def c_strings_Join(k:Nat)(x:((List ByteArray)×ByteArray)):Option ByteArray:=runF E1 H1 k 74 s_strings_Join x
noncomputable def c_strings_ContainsAny(k:Nat)(x:(ByteArray×ByteArray)):Option Bool:=runF E1 H1 k 75 s_strings_ContainsAny x
noncomputable def c_cmp_isNaN_int(k:Nat)(x:Int):Option Bool:=runF E1 H1 k 80 s_cmp_isNaN_int x
theorem c_strings_HasSuffix_run(k:Nat)(x):c_strings_HasSuffix (k+1) x=ext_strings_HasSuffix x:=by kernel_rfl
theorem c_strings_Split_run(k:Nat)(x):c_strings_Split (k+1) x=ext_strings_Split x:=by kernel_rfl
theorem c_strings_IndexByte_run(k:Nat)(x):c_strings_IndexByte (k+1) x=ext_strings_IndexByte x:=by kernel_rfl
theorem c_impl_FormatMode_run(k:Nat)(x):c_impl_FormatMode (k+1) x=ext_impl_FormatMode x:=by kernel_rfl
theorem c_strconv_Itoa_run(k:Nat)(x):c_strconv_Itoa (k+1) x=ext_strconv_Itoa x:=by kernel_rfl
theorem c_strings_Join_run(k:Nat)(x):c_strings_Join (k+1) x=ext_strings_Join x:=by kernel_rfl
theorem c_strings_ContainsAny_run(k:Nat)(x):c_strings_ContainsAny (k+1) x=ext_strings_ContainsAny x:=by kernel_rfl
end Go.Proofs.YtmmgfgfkkpeedaaGreatDoor
