/- The tables, the residual functions and lemmas of this seat: parts of the proof of the law; conditions: those that each names. -/
import Derived.Test.YtmmgfgfkkpeedaaDoorTab
set_option maxRecDepth 100000
set_option maxHeartbeats 0
set_option linter.unusedVariables false
namespace Go.Proofs.YtmmgfgfkkpeedaaDoor
open Go.Eng
noncomputable section
def laws_szAclEntryS(k:Nat)(x0:(List DAclEntry))(x1:Int):Option Int:=
 (bif (decide ((wrapK .i64 (x1-(x0.length:Int)))<(0:Int)))then some (-1:Int)else some (wrapK .i64 (x1-(x0.length:Int))))
theorem laws_szAclEntryS_run(k:Nat)(x0:(List DAclEntry))(x1:Int):c_laws_szAclEntryS (k+1) (x0,x1)=laws_szAclEntryS k x0 x1:=by kernel_rfl
def laws_szArchiveItem(k:Nat)(x0:DArchiveItem)(x1:Int):Option Int:=
 (bif (decide ((wrapK .i64 (x1-(x0.2.1.size:Int)))<(0:Int)))then some (-1:Int)else(c_laws_szAclEntryS k (x0.2.2.2.1,(wrapK .i64 (x1-(x0.2.1.size:Int))))).bind fun y1=>
 (bif (decide (y1<(0:Int)))then some (-1:Int)else(bif (decide ((wrapK .i64 (y1-(x0.2.2.2.2.size:Int)))<(0:Int)))then some (-1:Int)else some (wrapK .i64 (y1-(x0.2.2.2.2.size:Int))))))
theorem laws_szArchiveItem_run(k:Nat)(x0:DArchiveItem)(x1:Int):c_laws_szArchiveItem (k+1) (x0,x1)=laws_szArchiveItem k x0 x1:=by kernel_rfl
def spec_SplitAny_l1(k:Nat)(a0:_→Option (List ByteArray))(self:_→Option (List ByteArray))(d:(ByteArray×(ByteArray×((List ByteArray)×DAclEntry)))):=
 let e0:=d.2.2.2.2
 (bif (decide (e0.2<(d.2.1.size:Int)))then(if 0≤e0.1 then((d.1[e0.1.toNat]?.map fun v0=>(v0.toNat:Int))).bind fun v1=>
 (if 0≤e0.2 then((d.2.1[e0.2.toNat]?.map fun v0=>(v0.toNat:Int))).bind fun v2=>
 (bif (v1==v2)then(if 0≤e0.1 then(if e0.1≤(d.1.size:Int)then(if 0≤d.2.2.2.1 then(if d.2.2.2.1≤(e0.1.toNat:Int)then(if(d.2.2.1.length+([(d.1.extract d.2.2.2.1.toNat e0.1.toNat)]:List ByteArray).length)*16≤capBytes then a0 (d.1,d.2.1,(d.2.2.1++([(d.1.extract d.2.2.2.1.toNat e0.1.toNat)]:List ByteArray)),(wrapK .i64 (e0.1+(1:Int))),(wrapK .i64 (e0.1+(1:Int))))else none)else none)else none)else none)else none)else self (d.1,d.2.1,d.2.2.1,d.2.2.2.1,e0.1,(wrapK .i64 (e0.2+(1:Int)))))else none)else none)else a0 (d.1,d.2.1,d.2.2.1,d.2.2.2.1,(wrapK .i64 (e0.1+(1:Int)))))
def spec_SplitAny_l2(k:Nat)(self:_→Option (List ByteArray))(d:(ByteArray×(ByteArray×((List ByteArray)×(Int×Int))))):=
 (bif (decide (d.2.2.2.2<(d.1.size:Int)))then iter k (spec_SplitAny_l1 k self) (d.1,d.2.1,d.2.2.1,d.2.2.2.1,d.2.2.2.2,(0:Int))else(if 0≤d.2.2.2.1 then(if d.2.2.2.1≤(d.1.size:Int)then(if(d.2.2.1.length+([(d.1.extract d.2.2.2.1.toNat d.1.size)]:List ByteArray).length)*16≤capBytes then some (d.2.2.1++([(d.1.extract d.2.2.2.1.toNat d.1.size)]:List ByteArray))else none)else none)else none))
def spec_SplitAny(k:Nat)(x0:ByteArray)(x1:ByteArray):Option (List ByteArray):=
 iter k (spec_SplitAny_l2 k) (x0,x1,([]:List ByteArray),(0:Int),(0:Int))
theorem spec_SplitAny_run(k:Nat)(x0:ByteArray)(x1:ByteArray):c_spec_SplitAny (k+1) (x0,x1)=spec_SplitAny k x0 x1:=by kernel_rfl
def spec_l01In(k:Nat)(x0:Int)(x1:Int)(x2:Int):Option Bool:=
 (bif (decide (x1≤x0))then some (decide (x0≤x2))else some false)
theorem spec_l01In_run(k:Nat)(x0:Int)(x1:Int)(x2:Int):c_spec_l01In (k+1) (x0,x1,x2)=spec_l01In k x0 x1 x2:=by kernel_rfl
def spec_IsEntryName_l1(k:Nat)(self:_→Option Bool)(d:DerrorAddressString):=
 (bif (decide (d.2<(d.1.size:Int)))then(if 0≤d.2 then((d.1[d.2.toNat]?.map fun v0=>(v0.toNat:Int))).bind fun v1=>
 (bif (v1==(0:Int))then some false else(if 0≤d.2 then((d.1[d.2.toNat]?.map fun v0=>(v0.toNat:Int))).bind fun v2=>
 (bif (v2==(47:Int))then some false else self (d.1,(wrapK .i64 (d.2+(1:Int)))))else none))else none)else some true)
def spec_IsEntryName(k:Nat)(x0:ByteArray):Option Bool:=
 (c_spec_l01In k ((x0.size:Int),(1:Int),(12:Int))).bind fun y1=>
 (bif (!y1)then some false else(bif (eqS x0 (⟨#[46]⟩:ByteArray))then some false else(bif (eqS x0 (⟨#[46,46]⟩:ByteArray))then some false else iter k (spec_IsEntryName_l1 k) (x0,(0:Int)))))
theorem spec_IsEntryName_run(k:Nat)(x0:ByteArray):c_spec_IsEntryName (k+1) (x0)=spec_IsEntryName k x0:=by kernel_rfl
def spec_l23Plain_l1(k:Nat)(self:_→Option Bool)(d:DerrorAddressString):=
 (bif (decide (d.2<(d.1.size:Int)))then(if 0≤d.2 then((d.1[d.2.toNat]?.map fun v0=>(v0.toNat:Int))).bind fun v1=>
 (bif (v1==(32:Int))then some false else(if 0≤d.2 then((d.1[d.2.toNat]?.map fun v0=>(v0.toNat:Int))).bind fun v2=>
 (bif (v2==(10:Int))then some false else self (d.1,(wrapK .i64 (d.2+(1:Int)))))else none))else none)else(c_spec_IsEntryName k d.1).bind fun v3=>
 some v3)
def spec_l23Plain(k:Nat)(x0:ByteArray):Option Bool:=
 iter k (spec_l23Plain_l1 k) (x0,(0:Int))
theorem spec_l23Plain_run(k:Nat)(x0:ByteArray):c_spec_l23Plain (k+1) (x0)=spec_l23Plain k x0:=by kernel_rfl
def spec_l23Path_l1(k:Nat)(self:_→Option Bool)(d:((List ByteArray)×(Unit×(Int×Int)))):=
 (bif (decide (d.2.2.2<d.2.2.1))then(if 0≤d.2.2.2 then(if d.2.2.2<(d.1.length:Int)then(d.1[d.2.2.2.toNat]?).bind fun v0=>
 (c_spec_l23Plain k v0).bind fun v1=>
 (bif (!v1)then some false else self (d.1,(),d.2.2.1,(wrapK .i64 (d.2.2.2+(1:Int)))))else none)else none)else some (decide ((d.1.length:Int)≤(8:Int))))
def spec_l23Path(k:Nat)(x0:ByteArray):Option Bool:=
 (c_spec_SplitAny k (x0,(⟨#[47]⟩:ByteArray))).bind fun y1=>
 iter k (spec_l23Path_l1 k) (y1,(),(y1.length:Int),(0:Int))
theorem spec_l23Path_run(k:Nat)(x0:ByteArray):c_spec_l23Path (k+1) (x0)=spec_l23Path k x0:=by kernel_rfl
def spec_l06Mode(k:Nat)(x0:Int):Option Bool:=
 (c_spec_l01In k (x0,(0:Int),(2047:Int))).bind fun y1=>
 some y1
theorem spec_l06Mode_run(k:Nat)(x0:Int):c_spec_l06Mode (k+1) (x0)=spec_l06Mode k x0:=by kernel_rfl
def spec_l05Entry(k:Nat)(x0:DAclEntry):Option Bool:=
 (c_spec_l01In k (x0.2.2,(0:Int),(7:Int))).bind fun y1=>
 (bif (!y1)then some false else(bif (x0.1==(1:Int))then(bif (x0.1==(1:Int))then(c_spec_l01In k (x0.2.1,(0:Int),(3:Int))).bind fun y2=>
 some y2 else(bif (x0.1==(3:Int))then some (x0.2.1==(0:Int))else some false))else(bif (x0.1==(2:Int))then(c_spec_l01In k (x0.2.1,(0:Int),(3:Int))).bind fun y3=>
 some y3 else(bif (x0.1==(3:Int))then some (x0.2.1==(0:Int))else some false))))
theorem spec_l05Entry_run(k:Nat)(x0:DAclEntry):c_spec_l05Entry (k+1) (x0)=spec_l05Entry k x0:=by kernel_rfl
def spec_IsAcl_l1(k:Nat)(self:_→Option Bool)(d:((List DAclEntry)×((List DAclEntry)×(Int×Int)))):=
 (bif (decide (d.2.2.2<d.2.2.1))then(if 0≤d.2.2.2 then(d.2.1[d.2.2.2.toNat]?).bind fun v0=>
 (c_spec_l05Entry k v0).bind fun v1=>
 (bif (!v1)then some false else(bif (decide ((0:Int)<d.2.2.2))then(if 0≤(wrapK .i64 (d.2.2.2-(1:Int)))then(d.1[(wrapK .i64 (d.2.2.2-(1:Int))).toNat]?).bind fun v2=>
 (bif (decide (v0.1<v2.1))then some false else(if 0≤(wrapK .i64 (d.2.2.2-(1:Int)))then(d.1[(wrapK .i64 (d.2.2.2-(1:Int))).toNat]?).bind fun v3=>
 (bif (v3.1==v0.1)then(if 0≤(wrapK .i64 (d.2.2.2-(1:Int)))then(d.1[(wrapK .i64 (d.2.2.2-(1:Int))).toNat]?).bind fun v4=>
 (bif (decide (v0.2.1≤v4.2.1))then some false else self (d.1,d.2.1,d.2.2.1,(wrapK .i64 (d.2.2.2+(1:Int)))))else none)else self (d.1,d.2.1,d.2.2.1,(wrapK .i64 (d.2.2.2+(1:Int)))))else none))else none)else self (d.1,d.2.1,d.2.2.1,(wrapK .i64 (d.2.2.2+(1:Int))))))else none)else(bif ((d.1.length:Int)==(0:Int))then some true else(bif (decide ((d.1.length:Int)≤(6:Int)))then(if 0≤(wrapK .i64 ((d.1.length:Int)-(1:Int)))then(d.1[(wrapK .i64 ((d.1.length:Int)-(1:Int))).toNat]?).bind fun v5=>
 some (v5.1==(3:Int))else none)else some false)))
def spec_IsAcl(k:Nat)(x0:(List DAclEntry)):Option Bool:=
 iter k (spec_IsAcl_l1 k) (x0,x0,(x0.length:Int),(0:Int))
theorem spec_IsAcl_run(k:Nat)(x0:(List DAclEntry)):c_spec_IsAcl (k+1) (x0)=spec_IsAcl k x0:=by kernel_rfl
def spec_l06Bit(k:Nat)(x0:Bool)(x1:ByteArray):Option ByteArray:=
 (bif x0 then some x1 else some (⟨#[45]⟩:ByteArray))
theorem spec_l06Bit_run(k:Nat)(x0:Bool)(x1:ByteArray):c_spec_l06Bit (k+1) (x0,x1)=spec_l06Bit k x0 x1:=by kernel_rfl
def spec_PermOf_l1(k:Nat)(self:_→Option Int)(d:(Int×Int)):=
 (bif (decide (d.2<(2:Int)))then(if((8:Int):Int)≠0 then self ((wrapK .i64 (d.1.tdiv (8:Int))),(wrapK .i64 (d.2+(1:Int))))else none)else(if((8:Int):Int)≠0 then some (d.1.tmod (8:Int))else none))
def spec_PermOf(k:Nat)(x0:Int)(x1:Int):Option Int:=
 (c_spec_l06Mode k x0).bind fun y1=>
 (bif (!y1)then some (0:Int)else(c_spec_l01In k (x1,(0:Int),(2:Int))).bind fun y2=>
 (bif (!y2)then some (0:Int)else iter k (spec_PermOf_l1 k) (x0,x1)))
theorem spec_PermOf_run(k:Nat)(x0:Int)(x1:Int):c_spec_PermOf (k+1) (x0,x1)=spec_PermOf k x0 x1:=by kernel_rfl
def spec_FormatMode_l1(k:Nat)(self:_→Option ByteArray)(d:(Int×DerrorAddressString)):=
 (bif (decide (d.2.2<(3:Int)))then(c_spec_PermOf k (d.1,d.2.2)).bind fun v0=>
 (c_spec_l06Bit k (((intBits .and .i64 v0 (4:Int)) != (0:Int)),(⟨#[114]⟩:ByteArray))).bind fun v1=>
 (if d.2.1.size+v1.size≤9223372036854775807 then(c_spec_l06Bit k (((intBits .and .i64 v0 (2:Int)) != (0:Int)),(⟨#[119]⟩:ByteArray))).bind fun v2=>
 (if(d.2.1++v1).size+v2.size≤9223372036854775807 then(c_spec_l06Bit k (((intBits .and .i64 v0 (1:Int)) != (0:Int)),(⟨#[120]⟩:ByteArray))).bind fun v3=>
 (if((d.2.1++v1)++v2).size+v3.size≤9223372036854775807 then self (d.1,(((d.2.1++v1)++v2)++v3),(wrapK .i64 (d.2.2+(1:Int))))else none)else none)else none)else some d.2.1)
def spec_FormatMode(k:Nat)(x0:Int):Option ByteArray:=
 (c_spec_l06Mode k x0).bind fun y1=>
 (bif (!y1)then some (⟨#[]⟩:ByteArray)else(c_spec_l06Bit k (((intBits .and .i64 x0 (1024:Int)) != (0:Int)),(⟨#[115]⟩:ByteArray))).bind fun y2=>
 (c_spec_l06Bit k (((intBits .and .i64 x0 (512:Int)) != (0:Int)),(⟨#[116]⟩:ByteArray))).bind fun y3=>
 (if y2.size+y3.size≤9223372036854775807 then iter k (spec_FormatMode_l1 k) (x0,(y2++y3),(0:Int))else none))
theorem spec_FormatMode_run(k:Nat)(x0:Int):c_spec_FormatMode (k+1) (x0)=spec_FormatMode k x0:=by kernel_rfl
def spec_Join_l1(k:Nat)(self:_→Option ByteArray)(d:(ByteArray×(ByteArray×((List ByteArray)×(Int×Int))))):=
 let e0:=d.2.2.2.2
 (bif (decide (e0<d.2.2.2.1))then(if 0≤e0 then(d.2.2.1[e0.toNat]?).bind fun v0=>
 (bif (decide ((0:Int)<e0))then(if d.2.1.size+d.1.size≤9223372036854775807 then(if(d.2.1++d.1).size+v0.size≤9223372036854775807 then self (d.1,((d.2.1++d.1)++v0),d.2.2.1,d.2.2.2.1,(wrapK .i64 (e0+(1:Int))))else none)else none)else(if d.2.1.size+v0.size≤9223372036854775807 then self (d.1,(d.2.1++v0),d.2.2.1,d.2.2.2.1,(wrapK .i64 (e0+(1:Int))))else none))else none)else some d.2.1)
def spec_Join(k:Nat)(x0:(List ByteArray))(x1:ByteArray):Option ByteArray:=
 iter k (spec_Join_l1 k) (x1,(⟨#[]⟩:ByteArray),x0,(x0.length:Int),(0:Int))
theorem spec_Join_run(k:Nat)(x0:(List ByteArray))(x1:ByteArray):c_spec_Join (k+1) (x0,x1)=spec_Join k x0 x1:=by kernel_rfl
def spec_FormatInt_l1(k:Nat)(self:_→Option ByteArray)(d:(Int×ByteArray)):=
 (bif (decide ((9:Int)<d.1))then(if((10:Int):Int)≠0 then(if(ofBytes ([(wrapK .u8 (wrapK .i64 ((48:Int)+(d.1.tmod (10:Int)))))]:List Int)).size+d.2.size≤9223372036854775807 then(if((10:Int):Int)≠0 then self ((wrapK .i64 (d.1.tdiv (10:Int))),((ofBytes ([(wrapK .u8 (wrapK .i64 ((48:Int)+(d.1.tmod (10:Int)))))]:List Int))++d.2))else none)else none)else none)else(if(ofBytes ([(wrapK .u8 (wrapK .i64 ((48:Int)+d.1)))]:List Int)).size+d.2.size≤9223372036854775807 then some ((ofBytes ([(wrapK .u8 (wrapK .i64 ((48:Int)+d.1)))]:List Int))++d.2)else none))
def spec_FormatInt(k:Nat)(x0:Int):Option ByteArray:=
 (bif (decide (x0<(0:Int)))then(if((10:Int):Int)≠0 then(bif ((wrapK .i64 (x0.tdiv (10:Int)))==(0:Int))then(if(⟨#[45]⟩:ByteArray).size+(ofBytes ([(wrapK .u8 (wrapK .i64 ((48:Int)-x0)))]:List Int)).size≤9223372036854775807 then some ((⟨#[45]⟩:ByteArray)++(ofBytes ([(wrapK .u8 (wrapK .i64 ((48:Int)-x0)))]:List Int)))else none)else(if((10:Int):Int)≠0 then(c_spec_FormatInt k (wrapK .i64 (x0.tdiv (10:Int)))).bind fun y1=>
 (if((10:Int):Int)≠0 then(if y1.size+(ofBytes ([(wrapK .u8 (wrapK .i64 ((48:Int)-(x0.tmod (10:Int)))))]:List Int)).size≤9223372036854775807 then some (y1++(ofBytes ([(wrapK .u8 (wrapK .i64 ((48:Int)-(x0.tmod (10:Int)))))]:List Int)))else none)else none)else none))else none)else iter k (spec_FormatInt_l1 k) (x0,(⟨#[]⟩:ByteArray)))
theorem spec_FormatInt_run(k:Nat)(x0:Int):c_spec_FormatInt (k+1) (x0)=spec_FormatInt k x0:=by kernel_rfl
def spec_FormatAcl_l1(k:Nat)(self:_→Option ByteArray)(d:((List ByteArray)×((List DAclEntry)×(Int×Int)))):=
 (bif (decide (d.2.2.2<d.2.2.1))then(if 0≤d.2.2.2 then(d.2.1[d.2.2.2.toNat]?).bind fun v0=>
 (if 0≤(wrapK .i64 (v0.1+(1:Int)))then(if(wrapK .i64 (v0.1+(1:Int)))≤(((⟨#[63,117,103,109]⟩:ByteArray).size:Nat):Int)then(if 0≤v0.1 then(if v0.1≤(((wrapK .i64 (v0.1+(1:Int))).toNat:Nat):Int)then(c_spec_FormatInt k v0.2.1).bind fun v1=>
 (if((⟨#[63,117,103,109]⟩:ByteArray).extract v0.1.toNat ((wrapK .i64 (v0.1+(1:Int))).toNat)).size+v1.size≤9223372036854775807 then(if(((⟨#[63,117,103,109]⟩:ByteArray).extract v0.1.toNat ((wrapK .i64 (v0.1+(1:Int))).toNat))++v1).size+(⟨#[58]⟩:ByteArray).size≤9223372036854775807 then(c_spec_FormatInt k v0.2.2).bind fun v2=>
 (if((((⟨#[63,117,103,109]⟩:ByteArray).extract v0.1.toNat ((wrapK .i64 (v0.1+(1:Int))).toNat))++v1)++(⟨#[58]⟩:ByteArray)).size+v2.size≤9223372036854775807 then(if(d.1.length+([(((((⟨#[63,117,103,109]⟩:ByteArray).extract v0.1.toNat ((wrapK .i64 (v0.1+(1:Int))).toNat))++v1)++(⟨#[58]⟩:ByteArray))++v2)]:List ByteArray).length)*16≤capBytes then self ((d.1++([(((((⟨#[63,117,103,109]⟩:ByteArray).extract v0.1.toNat ((wrapK .i64 (v0.1+(1:Int))).toNat))++v1)++(⟨#[58]⟩:ByteArray))++v2)]:List ByteArray)),d.2.1,d.2.2.1,(wrapK .i64 (d.2.2.2+(1:Int))))else none)else none)else none)else none)else none)else none)else none)else none)else none)else(bif ((d.1.length:Int)==(0:Int))then some (⟨#[45]⟩:ByteArray)else(c_spec_Join k (d.1,(⟨#[44]⟩:ByteArray))).bind fun v3=>
 some v3))
def spec_FormatAcl(k:Nat)(x0:(List DAclEntry)):Option ByteArray:=
 (c_spec_IsAcl k x0).bind fun y1=>
 (bif (!y1)then some (⟨#[]⟩:ByteArray)else iter k (spec_FormatAcl_l1 k) (([]:List ByteArray),x0,(x0.length:Int),(0:Int)))
theorem spec_FormatAcl_run(k:Nat)(x0:(List DAclEntry)):c_spec_FormatAcl (k+1) (x0)=spec_FormatAcl k x0:=by kernel_rfl
def spec_HexOf_l1(k:Nat)(self:_→Option ByteArray)(d:(ByteArray×((List Int)×Int))):=
 (bif (decide (d.2.2<(d.1.size:Int)))then(if 0≤d.2.2 then((d.1[d.2.2.toNat]?.map fun v0=>(v0.toNat:Int))).bind fun v1=>
 (if((16:Int):Int)≠0 then(if 0≤(wrapK .u8 (v1.tdiv (16:Int)))then(((⟨#[48,49,50,51,52,53,54,55,56,57,97,98,99,100,101,102]⟩:ByteArray)[(wrapK .u8 (v1.tdiv (16:Int))).toNat]?.map fun v0=>(v0.toNat:Int))).bind fun v2=>
 (if 0≤d.2.2 then((d.1[d.2.2.toNat]?.map fun v0=>(v0.toNat:Int))).bind fun v3=>
 (if((16:Int):Int)≠0 then(if 0≤(v3.tmod (16:Int))then(((⟨#[48,49,50,51,52,53,54,55,56,57,97,98,99,100,101,102]⟩:ByteArray)[(v3.tmod (16:Int)).toNat]?.map fun v0=>(v0.toNat:Int))).bind fun v4=>
 (if(d.2.1.length+([v2,v4]:List Int).length)*1≤capBytes then self (d.1,(d.2.1++([v2,v4]:List Int)),(wrapK .i64 (d.2.2+(1:Int))))else none)else none)else none)else none)else none)else none)else none)else some (ofBytes d.2.1))
def spec_HexOf(k:Nat)(x0:ByteArray):Option ByteArray:=
 iter k (spec_HexOf_l1 k) (x0,([]:List Int),(0:Int))
theorem spec_HexOf_run(k:Nat)(x0:ByteArray):c_spec_HexOf (k+1) (x0)=spec_HexOf k x0:=by kernel_rfl
def spec_FormatItem(k:Nat)(x0:DArchiveItem):Option ByteArray:=
 (c_spec_l23Path k x0.2.1).bind fun y1=>
 (bif (!y1)then some (⟨#[]⟩:ByteArray)else(c_spec_l06Mode k x0.2.2.1).bind fun y2=>
 (bif (!y2)then some (⟨#[]⟩:ByteArray)else(c_spec_IsAcl k x0.2.2.2.1).bind fun y3=>
 (bif (!y3)then some (⟨#[]⟩:ByteArray)else(c_spec_FormatMode k x0.2.2.1).bind fun y4=>
 (c_spec_FormatAcl k x0.2.2.2.1).bind fun y5=>
 (bif x0.1 then(if 0≤(0:Int)then(if(0:Int)<((([(⟨#[102]⟩:ByteArray),x0.2.1,y4,y5]:List ByteArray).length:Nat):Int)then(([(⟨#[102]⟩:ByteArray),x0.2.1,y4,y5]:List ByteArray)[(0:Int).toNat]?).bind fun y6=>
 (bif (!(eqS x0.2.2.2.2 (⟨#[]⟩:ByteArray)))then some (⟨#[]⟩:ByteArray)else(c_spec_Join k ((([(⟨#[102]⟩:ByteArray),x0.2.1,y4,y5]:List ByteArray).set (0:Int).toNat (⟨#[100]⟩:ByteArray)),(⟨#[32]⟩:ByteArray))).bind fun y7=>
 some y7)else none)else none)else(bif (decide ((256:Int)<(x0.2.2.2.2.size:Int)))then some (⟨#[]⟩:ByteArray)else(bif ((intBits .and .i64 x0.2.2.1 (512:Int)) != (0:Int))then some (⟨#[]⟩:ByteArray)else(bif (eqS x0.2.2.2.2 (⟨#[]⟩:ByteArray))then(if(([(⟨#[102]⟩:ByteArray),x0.2.1,y4,y5]:List ByteArray).length+([(⟨#[45]⟩:ByteArray)]:List ByteArray).length)*16≤capBytes then(c_spec_Join k ((([(⟨#[102]⟩:ByteArray),x0.2.1,y4,y5]:List ByteArray)++([(⟨#[45]⟩:ByteArray)]:List ByteArray)),(⟨#[32]⟩:ByteArray))).bind fun y8=>
 some y8 else none)else(c_spec_HexOf k x0.2.2.2.2).bind fun y9=>
 (if(([(⟨#[102]⟩:ByteArray),x0.2.1,y4,y5]:List ByteArray).length+([y9]:List ByteArray).length)*16≤capBytes then(c_spec_Join k ((([(⟨#[102]⟩:ByteArray),x0.2.1,y4,y5]:List ByteArray)++([y9]:List ByteArray)),(⟨#[32]⟩:ByteArray))).bind fun y10=>
 some y10 else none))))))))
theorem spec_FormatItem_run(k:Nat)(x0:DArchiveItem):c_spec_FormatItem (k+1) (x0)=spec_FormatItem k x0:=by kernel_rfl
def laws_toAclEntry(k:Nat)(x0:DAclEntry):Option DAclEntry:=
 some (x0.1,x0.2.1,x0.2.2)
theorem laws_toAclEntry_run(k:Nat)(x0:DAclEntry):c_laws_toAclEntry (k+1) (x0)=laws_toAclEntry k x0:=by kernel_rfl
def laws_toAclEntryS_l1(k:Nat)(self:_→Option (List DAclEntry))(d:((List DAclEntry)×((List DAclEntry)×Int))):=
 (bif (decide (d.2.2<(d.1.length:Int)))then(if 0≤d.2.2 then(d.1[d.2.2.toNat]?).bind fun v0=>
 (c_laws_toAclEntry k v0).bind fun v1=>
 (if 0≤d.2.2 then(if d.2.2<(d.2.1.length:Int)then(d.2.1[d.2.2.toNat]?).bind fun v2=>
 self (d.1,(d.2.1.set d.2.2.toNat v1),(wrapK .i64 (d.2.2+(1:Int))))else none)else none)else none)else some d.2.1)
def laws_toAclEntryS(k:Nat)(x0:(List DAclEntry)):Option (List DAclEntry):=
 (if 0≤(x0.length:Int)then(if(x0.length:Int)≤(x0.length:Int)then(if(x0.length:Int)*24≤(capBytes:Int)then iter k (laws_toAclEntryS_l1 k) (x0,(List.replicate (x0.length:Int).toNat ((0:Int),(0:Int),(0:Int))),(0:Int))else none)else none)else none)
theorem laws_toAclEntryS_run(k:Nat)(x0:(List DAclEntry)):c_laws_toAclEntryS (k+1) (x0)=laws_toAclEntryS k x0:=by kernel_rfl
def laws_toArchiveItem(k:Nat)(x0:DArchiveItem):Option DArchiveItem:=
 (c_laws_toAclEntryS k x0.2.2.2.1).bind fun y1=>
 some (x0.1,x0.2.1,x0.2.2.1,y1,x0.2.2.2.2)
theorem laws_toArchiveItem_run(k:Nat)(x0:DArchiveItem):c_laws_toArchiveItem (k+1) (x0)=laws_toArchiveItem k x0:=by kernel_rfl
def impl_SplitAny_l1(k:Nat)(self:_→Option (List ByteArray))(d:(ByteArray×(ByteArray×((List ByteArray)×DAclEntry)))):=
 let e0:=d.2.2.2.2
 (bif (decide (e0.2<e0.1))then(if 0≤e0.2 then((d.1[e0.2.toNat]?.map fun v0=>(v0.toNat:Int))).bind fun v1=>
 (c_strings_IndexByte k (d.2.1,v1)).bind fun v2=>
 (bif (decide ((0:Int)≤v2))then(if 0≤e0.2 then(if e0.2≤(d.1.size:Int)then(if 0≤d.2.2.2.1 then(if d.2.2.2.1≤(e0.2.toNat:Int)then(if(d.2.2.1.length+([(d.1.extract d.2.2.2.1.toNat e0.2.toNat)]:List ByteArray).length)*16≤capBytes then self (d.1,d.2.1,(d.2.2.1++([(d.1.extract d.2.2.2.1.toNat e0.2.toNat)]:List ByteArray)),(wrapK .i64 (e0.2+(1:Int))),e0.1,(wrapK .i64 (e0.2+(1:Int))))else none)else none)else none)else none)else none)else self (d.1,d.2.1,d.2.2.1,d.2.2.2.1,e0.1,(wrapK .i64 (e0.2+(1:Int)))))else none)else(if 0≤d.2.2.2.1 then(if d.2.2.2.1≤(d.1.size:Int)then(if(d.2.2.1.length+([(d.1.extract d.2.2.2.1.toNat d.1.size)]:List ByteArray).length)*16≤capBytes then some (d.2.2.1++([(d.1.extract d.2.2.2.1.toNat d.1.size)]:List ByteArray))else none)else none)else none))
def impl_SplitAny(k:Nat)(x0:ByteArray)(x1:ByteArray):Option (List ByteArray):=
 iter k (impl_SplitAny_l1 k) (x0,x1,([]:List ByteArray),(0:Int),(x0.size:Int),(0:Int))
theorem impl_SplitAny_run(k:Nat)(x0:ByteArray)(x1:ByteArray):c_impl_SplitAny (k+1) (x0,x1)=impl_SplitAny k x0 x1:=by kernel_rfl
def impl_IsEntryName(k:Nat)(x0:ByteArray):Option Bool:=
 (bif (decide ((1:Int)≤(x0.size:Int)))then(bif (decide ((x0.size:Int)≤(12:Int)))then(c_strings_ContainsAny k (x0,(⟨#[0,47]⟩:ByteArray))).bind fun y1=>
 (bif (!y1)then(bif (!(eqS x0 (⟨#[46]⟩:ByteArray)))then some (!(eqS x0 (⟨#[46,46]⟩:ByteArray)))else some false)else some false)else some false)else some false)
theorem impl_IsEntryName_run(k:Nat)(x0:ByteArray):c_impl_IsEntryName (k+1) (x0)=impl_IsEntryName k x0:=by kernel_rfl
def impl_isPlain(k:Nat)(x0:ByteArray):Option Bool:=
 (c_strings_ContainsAny k (x0,(⟨#[32,10]⟩:ByteArray))).bind fun y1=>
 some (!y1)
theorem impl_isPlain_run(k:Nat)(x0:ByteArray):c_impl_isPlain (k+1) (x0)=impl_isPlain k x0:=by kernel_rfl
def impl_isMode(k:Nat)(x0:Int):Option Bool:=
 (bif (decide ((0:Int)≤x0))then some (decide (x0≤(2047:Int)))else some false)
theorem impl_isMode_run(k:Nat)(x0:Int):c_impl_isMode (k+1) (x0)=impl_isMode k x0:=by kernel_rfl
def impl_isUser(k:Nat)(x0:Int):Option Bool:=
 (bif (decide ((0:Int)≤x0))then some (decide (x0<(4:Int)))else some false)
theorem impl_isUser_run(k:Nat)(x0:Int):c_impl_isUser (k+1) (x0)=impl_isUser k x0:=by kernel_rfl
def cmp_Or_int_l1(k:Nat)(self:_→Option Int)(d:(Int×((List Int)×(Int×Int)))):=
 (bif (decide (d.2.2.2<d.2.2.1))then(if 0≤d.2.2.2 then(d.2.1[d.2.2.2.toNat]?).bind fun v0=>
 (bif (v0 != d.1)then some v0 else self (d.1,d.2.1,d.2.2.1,(wrapK .i64 (d.2.2.2+(1:Int)))))else none)else some d.1)
def cmp_Or_int(k:Nat)(x0:(List Int)):Option Int:=
 iter k (cmp_Or_int_l1 k) ((0:Int),x0,(x0.length:Int),(0:Int))
theorem cmp_Or_int_run(k:Nat)(x0:(List Int)):c_cmp_Or_int (k+1) (x0)=cmp_Or_int k x0:=by kernel_rfl
def cmp_isNaN_int(k:Nat)(x0:Int):Option Bool:=
 some (x0 != x0)
theorem cmp_isNaN_int_run(k:Nat)(x0:Int):c_cmp_isNaN_int (k+1) (x0)=cmp_isNaN_int k x0:=by kernel_rfl
def cmp_Compare_int(k:Nat)(x0:Int)(x1:Int):Option Int:=
 (c_cmp_isNaN_int k x0).bind fun y1=>
 (c_cmp_isNaN_int k x1).bind fun y2=>
 (bif y1 then(bif y2 then some (0:Int)else some (-1:Int))else(bif y2 then some (1:Int)else(bif (decide (x0<x1))then some (-1:Int)else(bif (decide (x1<x0))then some (1:Int)else some (0:Int)))))
theorem cmp_Compare_int_run(k:Nat)(x0:Int)(x1:Int):c_cmp_Compare_int (k+1) (x0,x1)=cmp_Compare_int k x0 x1:=by kernel_rfl
def impl_IsAcl_l1(k:Nat)(self:_→Option Bool)(d:((List DAclEntry)×((List DAclEntry)×(Int×Int)))):=
 (bif (decide (d.2.2.2<d.2.2.1))then(if 0≤d.2.2.2 then(d.2.1[d.2.2.2.toNat]?).bind fun v0=>
 (bif (decide (v0.2.2<(0:Int)))then some false else(bif (decide ((7:Int)<v0.2.2))then some false else(joinK (R:=Bool) ((bif (v0.1==(1:Int))then(bif (v0.1==(1:Int))then(c_impl_isUser k v0.2.1).bind fun v1=>
 (bif (!v1)then((some false).map .inr)else some (.inl (d.1,d.2.2.2,(),d.2.1,d.2.2.1,d.2.2.2,v0)))else(bif (v0.1==(3:Int))then(bif (v0.2.1 != (0:Int))then((some false).map .inr)else some (.inl (d.1,d.2.2.2,(),d.2.1,d.2.2.1,d.2.2.2,v0)))else((some false).map .inr)))else(bif (v0.1==(2:Int))then(c_impl_isUser k v0.2.1).bind fun v2=>
 (bif (!v2)then((some false).map .inr)else some (.inl (d.1,d.2.2.2,(),d.2.1,d.2.2.1,d.2.2.2,v0)))else(bif (v0.1==(3:Int))then(bif (v0.2.1 != (0:Int))then((some false).map .inr)else some (.inl (d.1,d.2.2.2,(),d.2.1,d.2.2.1,d.2.2.2,v0)))else((some false).map .inr))))) fun(v3:((List DAclEntry)×(Int×(Unit×((List DAclEntry)×(Int×(Int×DAclEntry)))))))=>let e0:=v3.2.2.2.2;(bif (decide ((0:Int)<v3.2.1))then(if 0≤(wrapK .i64 (v3.2.1-(1:Int)))then(v3.1[(wrapK .i64 (v3.2.1-(1:Int))).toNat]?).bind fun v4=>
 (c_cmp_Compare_int k (v4.1,e0.2.2.1)).bind fun v5=>
 (if 0≤(wrapK .i64 (v3.2.1-(1:Int)))then(v3.1[(wrapK .i64 (v3.2.1-(1:Int))).toNat]?).bind fun v6=>
 (c_cmp_Compare_int k (v6.2.1,e0.2.2.2.1)).bind fun v7=>
 (c_cmp_Or_int k ([v5,v7]:List Int)).bind fun v8=>
 (bif (decide ((0:Int)≤v8))then some false else self (v3.1,v3.2.2.2.1,e0.1,(wrapK .i64 (e0.2.1+(1:Int)))))else none)else none)else self (v3.1,v3.2.2.2.1,e0.1,(wrapK .i64 (e0.2.1+(1:Int))))))))else none)else(bif ((d.1.length:Int)==(0:Int))then some true else(if 0≤(wrapK .i64 ((d.1.length:Int)-(1:Int)))then(d.1[(wrapK .i64 ((d.1.length:Int)-(1:Int))).toNat]?).bind fun v9=>
 some (v9.1==(3:Int))else none)))
def impl_IsAcl(k:Nat)(x0:(List DAclEntry)):Option Bool:=
 (bif (decide ((6:Int)<(x0.length:Int)))then some false else iter k (impl_IsAcl_l1 k) (x0,x0,(x0.length:Int),(0:Int)))
theorem impl_IsAcl_run(k:Nat)(x0:(List DAclEntry)):c_impl_IsAcl (k+1) (x0)=impl_IsAcl k x0:=by kernel_rfl
def impl_isItem_l1(k:Nat)(self:_→Option Bool)(d:(Unit×((List ByteArray)×(Unit×(Int×(Int×DArchiveItem)))))):=
 let e0:=d.2.2.2.2
 (bif (decide (e0.1<d.2.2.2.1))then(if 0≤e0.1 then(if e0.1<(d.2.1.length:Int)then(d.2.1[e0.1.toNat]?).bind fun v0=>
 (c_impl_IsEntryName k v0).bind fun v1=>
 (bif (!v1)then some false else(c_impl_isPlain k v0).bind fun v2=>
 (bif (!v2)then some false else self ((),d.2.1,(),d.2.2.2.1,(wrapK .i64 (e0.1+(1:Int))),e0.2)))else none)else none)else(bif (decide ((8:Int)<(d.2.1.length:Int)))then some false else(c_impl_isMode k e0.2.2.2.1).bind fun v3=>
 (bif (!v3)then some false else(c_impl_IsAcl k e0.2.2.2.2.1).bind fun v4=>
 (bif (!v4)then some false else(bif e0.2.1 then some (eqS e0.2.2.2.2.2 (⟨#[]⟩:ByteArray))else(bif ((intBits .and .i64 e0.2.2.2.1 (512:Int))==(0:Int))then some (decide ((e0.2.2.2.2.2.size:Int)≤(256:Int)))else some false))))))
def impl_isItem(k:Nat)(x0:DArchiveItem):Option Bool:=
 (c_impl_SplitAny k (x0.2.1,(⟨#[47]⟩:ByteArray))).bind fun y1=>
 iter k (impl_isItem_l1 k) ((),y1,(),(y1.length:Int),(0:Int),x0)
theorem impl_isItem_run(k:Nat)(x0:DArchiveItem):c_impl_isItem (k+1) (x0)=impl_isItem k x0:=by kernel_rfl
def impl_FormatInt(k:Nat)(x0:Int):Option ByteArray:=
 (c_strconv_Itoa k x0).bind fun y1=>
 some y1
theorem impl_FormatInt_run(k:Nat)(x0:Int):c_impl_FormatInt (k+1) (x0)=impl_FormatInt k x0:=by kernel_rfl
def impl_Join(k:Nat)(x0:(List ByteArray))(x1:ByteArray):Option ByteArray:=
 (c_strings_Join k (x0,x1)).bind fun y1=>
 some y1
theorem impl_Join_run(k:Nat)(x0:(List ByteArray))(x1:ByteArray):c_impl_Join (k+1) (x0,x1)=impl_Join k x0 x1:=by kernel_rfl
def impl_FormatAcl_l1(k:Nat)(self:_→Option ByteArray)(d:((List ByteArray)×((List DAclEntry)×(Int×Int)))):=
 (bif (decide (d.2.2.2<d.2.2.1))then(if 0≤d.2.2.2 then(d.2.1[d.2.2.2.toNat]?).bind fun v0=>
 (if 0≤v0.1 then(if v0.1≤(((⟨#[117,103,109]⟩:ByteArray).size:Nat):Int)then(if 0≤(wrapK .i64 (v0.1-(1:Int)))then(if(wrapK .i64 (v0.1-(1:Int)))≤(v0.1.toNat:Int)then(c_impl_FormatInt k v0.2.1).bind fun v1=>
 (if((⟨#[117,103,109]⟩:ByteArray).extract ((wrapK .i64 (v0.1-(1:Int))).toNat) v0.1.toNat).size+v1.size≤9223372036854775807 then(if(((⟨#[117,103,109]⟩:ByteArray).extract ((wrapK .i64 (v0.1-(1:Int))).toNat) v0.1.toNat)++v1).size+(⟨#[58]⟩:ByteArray).size≤9223372036854775807 then(c_impl_FormatInt k v0.2.2).bind fun v2=>
 (if((((⟨#[117,103,109]⟩:ByteArray).extract ((wrapK .i64 (v0.1-(1:Int))).toNat) v0.1.toNat)++v1)++(⟨#[58]⟩:ByteArray)).size+v2.size≤9223372036854775807 then(if(d.1.length+([(((((⟨#[117,103,109]⟩:ByteArray).extract ((wrapK .i64 (v0.1-(1:Int))).toNat) v0.1.toNat)++v1)++(⟨#[58]⟩:ByteArray))++v2)]:List ByteArray).length)*16≤capBytes then self ((d.1++([(((((⟨#[117,103,109]⟩:ByteArray).extract ((wrapK .i64 (v0.1-(1:Int))).toNat) v0.1.toNat)++v1)++(⟨#[58]⟩:ByteArray))++v2)]:List ByteArray)),d.2.1,d.2.2.1,(wrapK .i64 (d.2.2.2+(1:Int))))else none)else none)else none)else none)else none)else none)else none)else none)else none)else(c_impl_Join k (d.1,(⟨#[44]⟩:ByteArray))).bind fun v3=>
 some v3)
def impl_FormatAcl(k:Nat)(x0:(List DAclEntry)):Option ByteArray:=
 (c_impl_IsAcl k x0).bind fun y1=>
 (bif (!y1)then some (⟨#[]⟩:ByteArray)else(bif ((x0.length:Int)==(0:Int))then some (⟨#[45]⟩:ByteArray)else iter k (impl_FormatAcl_l1 k) (([]:List ByteArray),x0,(x0.length:Int),(0:Int))))
theorem impl_FormatAcl_run(k:Nat)(x0:(List DAclEntry)):c_impl_FormatAcl (k+1) (x0)=impl_FormatAcl k x0:=by kernel_rfl
def impl_HexOf_l1(k:Nat)(self:_→Option ByteArray)(d:(ByteArray×((List Int)×(Int×Int)))):=
 (bif (decide (d.2.2.2<d.2.2.1))then(if 0≤d.2.2.2 then((d.1[d.2.2.2.toNat]?.map fun v0=>(v0.toNat:Int))).bind fun v1=>
 (if 0≤(4:Int)then(if 0≤(v1.fdiv (2 ^(min (4:Int).toNat (IntKind.bits .u8))))then(((⟨#[48,49,50,51,52,53,54,55,56,57,97,98,99,100,101,102]⟩:ByteArray)[(v1.fdiv (2 ^(min (4:Int).toNat (IntKind.bits .u8)))).toNat]?.map fun v0=>(v0.toNat:Int))).bind fun v2=>
 (if 0≤d.2.2.2 then((d.1[d.2.2.2.toNat]?.map fun v0=>(v0.toNat:Int))).bind fun v3=>
 (if 0≤(intBits .and .u8 v3 (15:Int))then(((⟨#[48,49,50,51,52,53,54,55,56,57,97,98,99,100,101,102]⟩:ByteArray)[(intBits .and .u8 v3 (15:Int)).toNat]?.map fun v0=>(v0.toNat:Int))).bind fun v4=>
 (if(d.2.1.length+([v2,v4]:List Int).length)*1≤capBytes then self (d.1,(d.2.1++([v2,v4]:List Int)),d.2.2.1,(wrapK .i64 (d.2.2.2+(1:Int))))else none)else none)else none)else none)else none)else none)else some (ofBytes d.2.1))
def impl_HexOf(k:Nat)(x0:ByteArray):Option ByteArray:=
 iter k (impl_HexOf_l1 k) (x0,([]:List Int),(x0.size:Int),(0:Int))
theorem impl_HexOf_run(k:Nat)(x0:ByteArray):c_impl_HexOf (k+1) (x0)=impl_HexOf k x0:=by kernel_rfl
def impl_hexOr(k:Nat)(x0:ByteArray):Option ByteArray:=
 (bif (eqS x0 (⟨#[]⟩:ByteArray))then some (⟨#[45]⟩:ByteArray)else(c_impl_HexOf k x0).bind fun y1=>
 some y1)
theorem impl_hexOr_run(k:Nat)(x0:ByteArray):c_impl_hexOr (k+1) (x0)=impl_hexOr k x0:=by kernel_rfl
def impl_FormatItem(k:Nat)(x0:DArchiveItem):Option ByteArray:=
 (c_impl_isItem k x0).bind fun y1=>
 (bif (!y1)then some (⟨#[]⟩:ByteArray)else(if x0.2.1.size+(⟨#[32]⟩:ByteArray).size≤9223372036854775807 then(c_impl_FormatMode k x0.2.2.1).bind fun y2=>
 (if(x0.2.1++(⟨#[32]⟩:ByteArray)).size+y2.size≤9223372036854775807 then(if((x0.2.1++(⟨#[32]⟩:ByteArray))++y2).size+(⟨#[32]⟩:ByteArray).size≤9223372036854775807 then(c_impl_FormatAcl k x0.2.2.2.1).bind fun y3=>
 (if(((x0.2.1++(⟨#[32]⟩:ByteArray))++y2)++(⟨#[32]⟩:ByteArray)).size+y3.size≤9223372036854775807 then(bif x0.1 then(if(⟨#[100,32]⟩:ByteArray).size+((((x0.2.1++(⟨#[32]⟩:ByteArray))++y2)++(⟨#[32]⟩:ByteArray))++y3).size≤9223372036854775807 then some ((⟨#[100,32]⟩:ByteArray)++((((x0.2.1++(⟨#[32]⟩:ByteArray))++y2)++(⟨#[32]⟩:ByteArray))++y3))else none)else(if(⟨#[102,32]⟩:ByteArray).size+((((x0.2.1++(⟨#[32]⟩:ByteArray))++y2)++(⟨#[32]⟩:ByteArray))++y3).size≤9223372036854775807 then(if((⟨#[102,32]⟩:ByteArray)++((((x0.2.1++(⟨#[32]⟩:ByteArray))++y2)++(⟨#[32]⟩:ByteArray))++y3)).size+(⟨#[32]⟩:ByteArray).size≤9223372036854775807 then(c_impl_hexOr k x0.2.2.2.2).bind fun y4=>
 (if(((⟨#[102,32]⟩:ByteArray)++((((x0.2.1++(⟨#[32]⟩:ByteArray))++y2)++(⟨#[32]⟩:ByteArray))++y3))++(⟨#[32]⟩:ByteArray)).size+y4.size≤9223372036854775807 then some ((((⟨#[102,32]⟩:ByteArray)++((((x0.2.1++(⟨#[32]⟩:ByteArray))++y2)++(⟨#[32]⟩:ByteArray))++y3))++(⟨#[32]⟩:ByteArray))++y4)else none)else none)else none))else none)else none)else none)else none))
theorem impl_FormatItem_run(k:Nat)(x0:DArchiveItem):c_impl_FormatItem (k+1) (x0)=impl_FormatItem k x0:=by kernel_rfl
def laws_eqAclEntry(k:Nat)(x0:DAclEntry)(x1:DAclEntry):Option Bool:=
 (bif (x0.1 != x1.1)then some false else(bif (x0.2.1 != x1.2.1)then some false else(bif (x0.2.2 != x1.2.2)then some false else some true)))
theorem laws_eqAclEntry_run(k:Nat)(x0:DAclEntry)(x1:DAclEntry):c_laws_eqAclEntry (k+1) (x0,x1)=laws_eqAclEntry k x0 x1:=by kernel_rfl
def laws_eqAclEntryS_l1(k:Nat)(self:_→Option Bool)(d:((List DAclEntry)×((List DAclEntry)×Int))):=
 (bif (decide (d.2.2<(d.1.length:Int)))then(if 0≤d.2.2 then(d.1[d.2.2.toNat]?).bind fun v0=>
 (if 0≤d.2.2 then(d.2.1[d.2.2.toNat]?).bind fun v1=>
 (c_laws_eqAclEntry k (v0,v1)).bind fun v2=>
 (bif (!v2)then some false else self (d.1,d.2.1,(wrapK .i64 (d.2.2+(1:Int)))))else none)else none)else some true)
def laws_eqAclEntryS(k:Nat)(x0:(List DAclEntry))(x1:(List DAclEntry)):Option Bool:=
 (bif ((x0.length:Int) != (x1.length:Int))then some false else iter k (laws_eqAclEntryS_l1 k) (x0,x1,(0:Int)))
theorem laws_eqAclEntryS_run(k:Nat)(x0:(List DAclEntry))(x1:(List DAclEntry)):c_laws_eqAclEntryS (k+1) (x0,x1)=laws_eqAclEntryS k x0 x1:=by kernel_rfl
def laws_eqArchiveItem(k:Nat)(x0:DArchiveItem)(x1:DArchiveItem):Option Bool:=
 (bif (x0.1 != x1.1)then some false else(bif (!(eqS x0.2.1 x1.2.1))then some false else(bif (x0.2.2.1 != x1.2.2.1)then some false else(c_laws_eqAclEntryS k (x0.2.2.2.1,x1.2.2.2.1)).bind fun y1=>
 (bif (!y1)then some false else(bif (!(eqS x0.2.2.2.2 x1.2.2.2.2))then some false else some true)))))
theorem laws_eqArchiveItem_run(k:Nat)(x0:DArchiveItem)(x1:DArchiveItem):c_laws_eqArchiveItem (k+1) (x0,x1)=laws_eqArchiveItem k x0 x1:=by kernel_rfl
def laws_FnExactFormatItem(k:Nat)(x0:DArchiveItem):Option Bool:=
 (c_laws_szArchiveItem k (x0,(1048576:Int))).bind fun y1=>
 (bif (decide (y1<(0:Int)))then some true else(c_laws_toArchiveItem k x0).bind fun y2=>
 (c_spec_FormatItem k y2).bind fun y3=>
 (c_laws_toArchiveItem k x0).bind fun y4=>
 (c_impl_FormatItem k y4).bind fun y5=>
 (bif (!(eqS y5 y3))then some false else(c_laws_toArchiveItem k x0).bind fun y6=>
 (c_laws_eqArchiveItem k (y4,y6)).bind fun y7=>
 (bif (!y7)then some false else some true)))
theorem laws_FnExactFormatItem_run(k:Nat)(x0:DArchiveItem):c_laws_FnExactFormatItem (k+1) (x0)=laws_FnExactFormatItem k x0:=by kernel_rfl
end
end Go.Proofs.YtmmgfgfkkpeedaaDoor
