/- The tables, the residual functions and lemmas of this seat: parts of the proof of the law; conditions: those that each names. -/
import Derived.Test.YtmmgfgfkkpeedaaDoorEng6
import Derived.KernelRfl
import Derived.Test.YtmmgfgfkkpeedaaDoorProg
set_option maxRecDepth 100000
namespace Go.Proofs.YtmmgfgfkkpeedaaDoor
open Go.Eng
abbrev DerrorAddressString:Type:=(ByteArray×Int)
abbrev DAclEntry:Type:=(Int×(Int×Int))
abbrev DboundsError:Type:=(Int×(Int×(Bool×Int)))
abbrev DArchiveItem:Type:=(Bool×(ByteArray×(Int×((List DAclEntry)×ByteArray))))
abbrev TerrorAddressStringk:Ty:=(.pair .str (.int .u64))
abbrev TAclEntryk:Ty:=(.pair (.int .i64) (.pair (.int .i64) (.int .i64)))
abbrev TboundsErrork:Ty:=(.pair (.int .i64) (.pair (.int .i64) (.pair .bool (.int .u8))))
abbrev TArchiveItemo:Ty:=(.pair .bool (.pair .str (.pair (.int .i64) (.pair (.list true TAclEntryk) .str))))
abbrev TArchiveItemk:Ty:=(.pair .bool (.pair .str (.pair (.int .i64) (.pair (.list false TAclEntryk) .str))))
abbrev s_laws_FnExactFormatItem:Sig:=⟨[.val TArchiveItemk],[.bool],none⟩
abbrev s_laws_szArchiveItem:Sig:=⟨[.val TArchiveItemk,.val (.int .i64)],[(.int .i64)],none⟩
abbrev s_spec_FormatItem:Sig:=⟨[.val TArchiveItemk],[.str],none⟩
abbrev s_laws_toArchiveItem:Sig:=⟨[.val TArchiveItemk],[TArchiveItemo],none⟩
abbrev s_impl_FormatItem:Sig:=⟨[.val TArchiveItemk],[.str],none⟩
abbrev s_laws_eqArchiveItem:Sig:=⟨[.val TArchiveItemk,.val TArchiveItemk],[.bool],none⟩
abbrev s_laws_szAclEntryS:Sig:=⟨[.val (.list false TAclEntryk),.val (.int .i64)],[(.int .i64)],none⟩
abbrev s_spec_l23Path:Sig:=⟨[.val .str],[.bool],none⟩
abbrev s_spec_l06Mode:Sig:=⟨[.val (.int .i64)],[.bool],none⟩
abbrev s_spec_IsAcl:Sig:=⟨[.val (.list false TAclEntryk)],[.bool],none⟩
abbrev s_spec_FormatMode:Sig:=⟨[.val (.int .i64)],[.str],none⟩
abbrev s_spec_FormatAcl:Sig:=⟨[.val (.list false TAclEntryk)],[.str],none⟩
abbrev s_spec_Join:Sig:=⟨[.val (.list false .str),.val .str],[.str],none⟩
abbrev s_spec_HexOf:Sig:=⟨[.val .str],[.str],none⟩
abbrev s_laws_toAclEntryS:Sig:=⟨[.val (.list false TAclEntryk)],[(.list true TAclEntryk)],none⟩
abbrev s_impl_isItem:Sig:=⟨[.val TArchiveItemk],[.bool],none⟩
abbrev s_impl_FormatMode:Sig:=⟨[.val (.int .i64)],[.str],none⟩
abbrev s_impl_FormatAcl:Sig:=⟨[.val (.list false TAclEntryk)],[.str],none⟩
abbrev s_impl_hexOr:Sig:=⟨[.val .str],[.str],none⟩
abbrev s_laws_eqAclEntryS:Sig:=⟨[.val (.list false TAclEntryk),.val (.list false TAclEntryk)],[.bool],none⟩
abbrev s_spec_SplitAny:Sig:=⟨[.val .str,.val .str],[(.list true .str)],none⟩
abbrev s_spec_l23Plain:Sig:=⟨[.val .str],[.bool],none⟩
abbrev s_spec_l01In:Sig:=⟨[.val (.int .i64),.val (.int .i64),.val (.int .i64)],[.bool],none⟩
abbrev s_spec_l05Entry:Sig:=⟨[.val TAclEntryk],[.bool],none⟩
abbrev s_spec_l06Bit:Sig:=⟨[.val .bool,.val .str],[.str],none⟩
abbrev s_spec_PermOf:Sig:=⟨[.val (.int .i64),.val (.int .i64)],[(.int .i64)],none⟩
abbrev s_spec_FormatInt:Sig:=⟨[.val (.int .i64)],[.str],none⟩
abbrev s_laws_toAclEntry:Sig:=⟨[.val TAclEntryk],[TAclEntryk],none⟩
abbrev s_impl_SplitAny:Sig:=⟨[.val .str,.val .str],[(.list true .str)],none⟩
abbrev s_impl_IsEntryName:Sig:=⟨[.val .str],[.bool],none⟩
abbrev s_impl_isPlain:Sig:=⟨[.val .str],[.bool],none⟩
abbrev s_impl_isMode:Sig:=⟨[.val (.int .i64)],[.bool],none⟩
abbrev s_impl_IsAcl:Sig:=⟨[.val (.list false TAclEntryk)],[.bool],none⟩
abbrev s_impl_FormatInt:Sig:=⟨[.val (.int .i64)],[.str],none⟩
abbrev s_impl_Join:Sig:=⟨[.val (.list false .str),.val .str],[.str],none⟩
abbrev s_impl_HexOf:Sig:=⟨[.val .str],[.str],none⟩
abbrev s_laws_eqAclEntry:Sig:=⟨[.val TAclEntryk,.val TAclEntryk],[.bool],none⟩
abbrev s_spec_IsEntryName:Sig:=⟨[.val .str],[.bool],none⟩
abbrev s_strings_IndexByte:Sig:=⟨[.val .str,.val (.int .u8)],[(.int .i64)],none⟩
abbrev s_strings_ContainsAny:Sig:=⟨[.val .str,.val .str],[.bool],none⟩
abbrev s_impl_isUser:Sig:=⟨[.val (.int .i64)],[.bool],none⟩
abbrev s_cmp_Or_int:Sig:=⟨[.val (.list false (.int .i64))],[(.int .i64)],none⟩
abbrev s_cmp_Compare_int:Sig:=⟨[.val (.int .i64),.val (.int .i64)],[(.int .i64)],none⟩
abbrev s_strconv_Itoa:Sig:=⟨[.val (.int .i64)],[.str],none⟩
abbrev s_strings_Join:Sig:=⟨[.val (.list false .str),.val .str],[.str],none⟩
abbrev s_cmp_isNaN_int:Sig:=⟨[.val (.int .i64)],[.bool],none⟩
noncomputable def exts:List ExtE:=[⟨19,s_impl_FormatMode,ext_impl_FormatMode⟩,⟨41,s_strings_IndexByte,ext_strings_IndexByte⟩,⟨42,s_strings_ContainsAny,ext_strings_ContainsAny⟩,⟨46,s_strconv_Itoa,ext_strconv_Itoa⟩,⟨47,s_strings_Join,ext_strings_Join⟩]
noncomputable def tab:Tab:={
 ty:=[(2,(.int .i64)),(3,(.int .i64)),(4,.bool),(5,(.int .u8)),(9,.str),(22,(.list false TAclEntryk)),(24,TArchiveItemk),(27,(.list false TAclEntryk)),(29,TArchiveItemk),(39,(.list false .str)),(48,TAclEntryk),(52,(.list false (.int .u8))),(54,TAclEntryk),(61,(.list false (.int .i64)))],
 nf:=[(24,5),(29,5),(48,3),(54,3)],
 el:=[(27,48,24),(39,9,16),(52,5,1)],
 fnT:=[1],
 eqs:=[48,54],
 sig:=[(3,s_laws_FnExactFormatItem),(4,s_laws_szArchiveItem),(5,s_spec_FormatItem),(6,s_laws_toArchiveItem),(7,s_impl_FormatItem),(8,s_laws_eqArchiveItem),(9,s_laws_szAclEntryS),(10,s_spec_l23Path),(11,s_spec_l06Mode),(12,s_spec_IsAcl),(13,s_spec_FormatMode),(14,s_spec_FormatAcl),(15,s_spec_Join),(16,s_spec_HexOf),(17,s_laws_toAclEntryS),(18,s_impl_isItem),(19,s_impl_FormatMode),(20,s_impl_FormatAcl),(21,s_impl_hexOr),(22,s_laws_eqAclEntryS),(23,s_spec_SplitAny),(24,s_spec_l23Plain),(25,s_spec_l01In),(26,s_spec_l05Entry),(27,s_spec_l06Bit),(28,s_spec_PermOf),(29,s_spec_FormatInt),(30,s_laws_toAclEntry),(31,s_impl_SplitAny),(32,s_impl_IsEntryName),(33,s_impl_isPlain),(34,s_impl_isMode),(35,s_impl_IsAcl),(36,s_impl_FormatInt),(37,s_impl_Join),(38,s_impl_HexOf),(39,s_laws_eqAclEntry),(40,s_spec_IsEntryName),(41,s_strings_IndexByte),(42,s_strings_ContainsAny),(43,s_impl_isUser),(44,s_cmp_Or_int),(45,s_cmp_Compare_int),(46,s_strconv_Itoa),(47,s_strings_Join),(50,s_cmp_isNaN_int)],
 body:=[(3,Tryd.f3),(4,Tryd.f4),(5,Tryd.f5),(6,Tryd.f6),(7,Tryd.f7),(8,Tryd.f8),(9,Tryd.f9),(10,Tryd.f10),(11,Tryd.f11),(12,Tryd.f12),(13,Tryd.f13),(14,Tryd.f14),(15,Tryd.f15),(16,Tryd.f16),(17,Tryd.f17),(18,Tryd.f18),(20,Tryd.f20),(21,Tryd.f21),(22,Tryd.f22),(23,Tryd.f23),(24,Tryd.f24),(25,Tryd.f25),(26,Tryd.f26),(27,Tryd.f27),(28,Tryd.f28),(29,Tryd.f29),(30,Tryd.f30),(31,Tryd.f31),(32,Tryd.f32),(33,Tryd.f33),(34,Tryd.f34),(35,Tryd.f35),(36,Tryd.f36),(37,Tryd.f37),(38,Tryd.f38),(39,Tryd.f39),(40,Tryd.f40),(43,Tryd.f43),(44,Tryd.f44),(45,Tryd.f45),(50,Tryd.f50)]}
noncomputable def E1:Env:=tab.env (extOf exts)
noncomputable def H1:Nat→Hints:=fun f=>(Eng.look [(10,⟨fun r=>(Eng.look [(3,[(3,none),(8,none),(9,none),(10,none)])] r).getD [],fun r=>Eng.look [] r⟩),
 (12,⟨fun r=>(Eng.look [(2,[(0,none),(6,none),(7,none),(8,none)])] r).getD [],fun r=>Eng.look [] r⟩),
 (13,⟨fun r=>(Eng.look [(5,[(0,none),(3,none),(4,none)])] r).getD [],fun r=>Eng.look [] r⟩),
 (14,⟨fun r=>(Eng.look [(5,[(3,none),(10,none),(11,none),(12,none)])] r).getD [],fun r=>Eng.look [] r⟩),
 (15,⟨fun r=>(Eng.look [(3,[(1,none),(5,none),(8,none),(9,none),(10,none)])] r).getD [],fun r=>Eng.look [] r⟩),
 (16,⟨fun r=>(Eng.look [(3,[(0,none),(3,none),(4,none)])] r).getD [],fun r=>Eng.look [] r⟩),
 (17,⟨fun r=>(Eng.look [(3,[(0,none),(3,none),(4,none)])] r).getD [],fun r=>Eng.look [] r⟩),
 (18,⟨fun r=>(Eng.look [(3,[(1,none),(3,none),(9,none),(10,none),(11,none)])] r).getD [],fun r=>Eng.look [] r⟩),
 (20,⟨fun r=>(Eng.look [(7,[(3,none),(13,none),(14,none),(15,none)])] r).getD [],fun r=>Eng.look [] r⟩),
 (22,⟨fun r=>(Eng.look [(4,[(0,none),(1,none),(5,none)])] r).getD [],fun r=>Eng.look [] r⟩),
 (23,⟨fun r=>(Eng.look [(4,[(0,none),(1,none),(5,none),(6,none),(7,none)]),(7,[(0,none),(1,none),(5,none),(6,none),(7,none),(8,none)])] r).getD [],fun r=>Eng.look [] r⟩),
 (24,⟨fun r=>(Eng.look [(2,[(0,none),(3,none)])] r).getD [],fun r=>Eng.look [] r⟩),
 (28,⟨fun r=>(Eng.look [(4,[(0,none),(5,none)])] r).getD [],fun r=>Eng.look [] r⟩),
 (29,⟨fun r=>(Eng.look [(6,[(0,none),(3,none)])] r).getD [],fun r=>Eng.look [] r⟩),
 (31,⟨fun r=>(Eng.look [(3,[(0,none),(1,none),(5,none),(6,none),(10,none),(11,none)])] r).getD [],fun r=>Eng.look [] r⟩),
 (35,⟨fun r=>(Eng.look [(4,[(0,none),(8,none),(9,none),(10,none)])] r).getD [],fun r=>Eng.look [(17,[(0,none),(3,none),(4,none),(8,none),(9,none),(10,none)])] r⟩),
 (38,⟨fun r=>(Eng.look [(3,[(0,none),(3,none),(7,none),(8,none)])] r).getD [],fun r=>Eng.look [] r⟩),
 (40,⟨fun r=>(Eng.look [(4,[(0,none),(3,none)])] r).getD [],fun r=>Eng.look [] r⟩),
 (44,⟨fun r=>(Eng.look [(3,[(3,none),(6,none),(7,none),(8,none)])] r).getD [],fun r=>Eng.look [] r⟩)] f).getD ⟨fun _=>[],fun _=>none⟩
noncomputable def c_laws_FnExactFormatItem(k:Nat)(x:DArchiveItem):Option Bool:=runF E1 H1 k 3 s_laws_FnExactFormatItem x
noncomputable def c_laws_szArchiveItem(k:Nat)(x:(DArchiveItem×Int)):Option Int:=runF E1 H1 k 4 s_laws_szArchiveItem x
noncomputable def c_spec_FormatItem(k:Nat)(x:DArchiveItem):Option ByteArray:=runF E1 H1 k 5 s_spec_FormatItem x
noncomputable def c_laws_toArchiveItem(k:Nat)(x:DArchiveItem):Option DArchiveItem:=runF E1 H1 k 6 s_laws_toArchiveItem x
noncomputable def c_impl_FormatItem(k:Nat)(x:DArchiveItem):Option ByteArray:=runF E1 H1 k 7 s_impl_FormatItem x
noncomputable def c_laws_eqArchiveItem(k:Nat)(x:(DArchiveItem×DArchiveItem)):Option Bool:=runF E1 H1 k 8 s_laws_eqArchiveItem x
noncomputable def c_laws_szAclEntryS(k:Nat)(x:((List DAclEntry)×Int)):Option Int:=runF E1 H1 k 9 s_laws_szAclEntryS x
noncomputable def c_spec_l23Path(k:Nat)(x:ByteArray):Option Bool:=runF E1 H1 k 10 s_spec_l23Path x
noncomputable def c_spec_l06Mode(k:Nat)(x:Int):Option Bool:=runF E1 H1 k 11 s_spec_l06Mode x
noncomputable def c_spec_IsAcl(k:Nat)(x:(List DAclEntry)):Option Bool:=runF E1 H1 k 12 s_spec_IsAcl x
noncomputable def c_spec_FormatMode(k:Nat)(x:Int):Option ByteArray:=runF E1 H1 k 13 s_spec_FormatMode x
noncomputable def c_spec_FormatAcl(k:Nat)(x:(List DAclEntry)):Option ByteArray:=runF E1 H1 k 14 s_spec_FormatAcl x
noncomputable def c_spec_Join(k:Nat)(x:((List ByteArray)×ByteArray)):Option ByteArray:=runF E1 H1 k 15 s_spec_Join x
noncomputable def c_spec_HexOf(k:Nat)(x:ByteArray):Option ByteArray:=runF E1 H1 k 16 s_spec_HexOf x
noncomputable def c_laws_toAclEntryS(k:Nat)(x:(List DAclEntry)):Option (List DAclEntry):=runF E1 H1 k 17 s_laws_toAclEntryS x
noncomputable def c_impl_isItem(k:Nat)(x:DArchiveItem):Option Bool:=runF E1 H1 k 18 s_impl_isItem x
noncomputable def c_impl_FormatMode(k:Nat)(x:Int):Option ByteArray:=runF E1 H1 k 19 s_impl_FormatMode x
noncomputable def c_impl_FormatAcl(k:Nat)(x:(List DAclEntry)):Option ByteArray:=runF E1 H1 k 20 s_impl_FormatAcl x
noncomputable def c_impl_hexOr(k:Nat)(x:ByteArray):Option ByteArray:=runF E1 H1 k 21 s_impl_hexOr x
noncomputable def c_laws_eqAclEntryS(k:Nat)(x:((List DAclEntry)×(List DAclEntry))):Option Bool:=runF E1 H1 k 22 s_laws_eqAclEntryS x
noncomputable def c_spec_SplitAny(k:Nat)(x:(ByteArray×ByteArray)):Option (List ByteArray):=runF E1 H1 k 23 s_spec_SplitAny x
noncomputable def c_spec_l23Plain(k:Nat)(x:ByteArray):Option Bool:=runF E1 H1 k 24 s_spec_l23Plain x
noncomputable def c_spec_l01In(k:Nat)(x:DAclEntry):Option Bool:=runF E1 H1 k 25 s_spec_l01In x
noncomputable def c_spec_l05Entry(k:Nat)(x:DAclEntry):Option Bool:=runF E1 H1 k 26 s_spec_l05Entry x
noncomputable def c_spec_l06Bit(k:Nat)(x:(Bool×ByteArray)):Option ByteArray:=runF E1 H1 k 27 s_spec_l06Bit x
noncomputable def c_spec_PermOf(k:Nat)(x:(Int×Int)):Option Int:=runF E1 H1 k 28 s_spec_PermOf x
noncomputable def c_spec_FormatInt(k:Nat)(x:Int):Option ByteArray:=runF E1 H1 k 29 s_spec_FormatInt x
noncomputable def c_laws_toAclEntry(k:Nat)(x:DAclEntry):Option DAclEntry:=runF E1 H1 k 30 s_laws_toAclEntry x
noncomputable def c_impl_SplitAny(k:Nat)(x:(ByteArray×ByteArray)):Option (List ByteArray):=runF E1 H1 k 31 s_impl_SplitAny x
noncomputable def c_impl_IsEntryName(k:Nat)(x:ByteArray):Option Bool:=runF E1 H1 k 32 s_impl_IsEntryName x
noncomputable def c_impl_isPlain(k:Nat)(x:ByteArray):Option Bool:=runF E1 H1 k 33 s_impl_isPlain x
noncomputable def c_impl_isMode(k:Nat)(x:Int):Option Bool:=runF E1 H1 k 34 s_impl_isMode x
noncomputable def c_impl_IsAcl(k:Nat)(x:(List DAclEntry)):Option Bool:=runF E1 H1 k 35 s_impl_IsAcl x
noncomputable def c_impl_FormatInt(k:Nat)(x:Int):Option ByteArray:=runF E1 H1 k 36 s_impl_FormatInt x
noncomputable def c_impl_Join(k:Nat)(x:((List ByteArray)×ByteArray)):Option ByteArray:=runF E1 H1 k 37 s_impl_Join x
noncomputable def c_impl_HexOf(k:Nat)(x:ByteArray):Option ByteArray:=runF E1 H1 k 38 s_impl_HexOf x
noncomputable def c_laws_eqAclEntry(k:Nat)(x:(DAclEntry×DAclEntry)):Option Bool:=runF E1 H1 k 39 s_laws_eqAclEntry x
noncomputable def c_spec_IsEntryName(k:Nat)(x:ByteArray):Option Bool:=runF E1 H1 k 40 s_spec_IsEntryName x
noncomputable def c_strings_IndexByte(k:Nat)(x:DerrorAddressString):Option Int:=runF E1 H1 k 41 s_strings_IndexByte x
noncomputable def c_strings_ContainsAny(k:Nat)(x:(ByteArray×ByteArray)):Option Bool:=runF E1 H1 k 42 s_strings_ContainsAny x
noncomputable def c_impl_isUser(k:Nat)(x:Int):Option Bool:=runF E1 H1 k 43 s_impl_isUser x
noncomputable def c_cmp_Or_int(k:Nat)(x:(List Int)):Option Int:=runF E1 H1 k 44 s_cmp_Or_int x
noncomputable def c_cmp_Compare_int(k:Nat)(x:(Int×Int)):Option Int:=runF E1 H1 k 45 s_cmp_Compare_int x
noncomputable def c_strconv_Itoa(k:Nat)(x:Int):Option ByteArray:=runF E1 H1 k 46 s_strconv_Itoa x
noncomputable def c_strings_Join(k:Nat)(x:((List ByteArray)×ByteArray)):Option ByteArray:=runF E1 H1 k 47 s_strings_Join x
noncomputable def c_cmp_isNaN_int(k:Nat)(x:Int):Option Bool:=runF E1 H1 k 50 s_cmp_isNaN_int x
theorem c_impl_FormatMode_run(k:Nat)(x):c_impl_FormatMode (k+1) x=ext_impl_FormatMode x:=by kernel_rfl
theorem c_strings_IndexByte_run(k:Nat)(x):c_strings_IndexByte (k+1) x=ext_strings_IndexByte x:=by kernel_rfl
theorem c_strings_ContainsAny_run(k:Nat)(x):c_strings_ContainsAny (k+1) x=ext_strings_ContainsAny x:=by kernel_rfl
theorem c_strconv_Itoa_run(k:Nat)(x):c_strconv_Itoa (k+1) x=ext_strconv_Itoa x:=by kernel_rfl
theorem c_strings_Join_run(k:Nat)(x):c_strings_Join (k+1) x=ext_strings_Join x:=by kernel_rfl
end Go.Proofs.YtmmgfgfkkpeedaaDoor
