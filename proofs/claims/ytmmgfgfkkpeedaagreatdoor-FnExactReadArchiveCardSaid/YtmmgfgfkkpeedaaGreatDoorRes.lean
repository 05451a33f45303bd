/- The tables, the residual functions and lemmas of this seat: parts of the proof of the law; conditions: those that each names. -/
import Derived.Test.YtmmgfgfkkpeedaaGreatDoorTab
set_option maxRecDepth 100000
set_option maxHeartbeats 0
set_option linter.unusedVariables false
namespace Go.Proofs.YtmmgfgfkkpeedaaGreatDoor
open Go.Eng
noncomputable section
def spec_SplitAny_l1(k:Nat)(a0:_→Option (List ByteArray))(self:_→Option (List ByteArray))(d:(ByteArray×(ByteArray×((List ByteArray)×DAclEntry)))):=
 let e0:=d.2.2.2.2
 (bif (decide (e0.2<(d.2.1.size:Int)))then(if 0≤e0.1 then((d.1[e0.1.toNat]?.map fun v0=>(v0.toNat:Int))).bind fun v1=>
 (if 0≤e0.2 then((d.2.1[e0.2.toNat]?.map fun v0=>(v0.toNat:Int))).bind fun v2=>
 (bif (v1==v2)then(if 0≤e0.1 then(if e0.1≤(d.1.size:Int)then(if 0≤d.2.2.2.1 then(if d.2.2.2.1≤(e0.1.toNat:Int)then(if(d.2.2.1.length+([(d.1.extract d.2.2.2.1.toNat e0.1.toNat)]:List ByteArray).length)*16≤capBytes then a0 (d.1,d.2.1,(d.2.2.1++([(d.1.extract d.2.2.2.1.toNat e0.1.toNat)]:List ByteArray)),(wrapK .i64 (e0.1+(1:Int))),(wrapK .i64 (e0.1+(1:Int))))else none)else none)else none)else none)else none)else self (d.1,d.2.1,d.2.2.1,d.2.2.2.1,e0.1,(wrapK .i64 (e0.2+(1:Int)))))else none)else none)else a0 (d.1,d.2.1,d.2.2.1,d.2.2.2.1,(wrapK .i64 (e0.1+(1:Int)))))
def spec_SplitAny_l2(k:Nat)(self:_→Option (List ByteArray))(d:(ByteArray×(ByteArray×((List ByteArray)×DacceptRange)))):=
 (bif (decide (d.2.2.2.2<(d.1.size:Int)))then iter k (spec_SplitAny_l1 k self) (d.1,d.2.1,d.2.2.1,d.2.2.2.1,d.2.2.2.2,(0:Int))else(if 0≤d.2.2.2.1 then(if d.2.2.2.1≤(d.1.size:Int)then(if(d.2.2.1.length+([(d.1.extract d.2.2.2.1.toNat d.1.size)]:List ByteArray).length)*16≤capBytes then some (d.2.2.1++([(d.1.extract d.2.2.2.1.toNat d.1.size)]:List ByteArray))else none)else none)else none))
def spec_SplitAny(k:Nat)(x0:ByteArray)(x1:ByteArray):Option (List ByteArray):=
 iter k (spec_SplitAny_l2 k) (x0,x1,([]:List ByteArray),(0:Int),(0:Int))
theorem spec_SplitAny_run(k:Nat)(x0:ByteArray)(x1:ByteArray):c_spec_SplitAny (k+1) (x0,x1)=spec_SplitAny k x0 x1:=by kernel_rfl
def spec_SplitLines(k:Nat)(x0:ByteArray):Option (List ByteArray):=
 (c_spec_SplitAny k (x0,(⟨#[10]⟩:ByteArray))).bind fun y1=>
 (if 0≤(wrapK .i64 ((y1.length:Int)-(1:Int)))then(if(wrapK .i64 ((y1.length:Int)-(1:Int)))<(y1.length:Int)then(y1[(wrapK .i64 ((y1.length:Int)-(1:Int))).toNat]?).bind fun y2=>
 (bif (eqS y2 (⟨#[]⟩:ByteArray))then(if 0≤(wrapK .i64 ((y1.length:Int)-(1:Int)))then(if(wrapK .i64 ((y1.length:Int)-(1:Int)))≤(y1.length:Int)then some (y1.take ((wrapK .i64 ((y1.length:Int)-(1:Int))).toNat-0))else none)else none)else some y1)else none)else none)
theorem spec_SplitLines_run(k:Nat)(x0:ByteArray):c_spec_SplitLines (k+1) (x0)=spec_SplitLines k x0:=by kernel_rfl
def spec_l01In(k:Nat)(x0:Int)(x1:Int)(x2:Int):Option Bool:=
 (bif (decide (x1≤x0))then some (decide (x0≤x2))else some false)
theorem spec_l01In_run(k:Nat)(x0:Int)(x1:Int)(x2:Int):c_spec_l01In (k+1) (x0,x1,x2)=spec_l01In k x0 x1 x2:=by kernel_rfl
def spec_l06Mode(k:Nat)(x0:Int):Option Bool:=
 (c_spec_l01In k (x0,(0:Int),(2047:Int))).bind fun y1=>
 some y1
theorem spec_l06Mode_run(k:Nat)(x0:Int):c_spec_l06Mode (k+1) (x0)=spec_l06Mode k x0:=by kernel_rfl
def spec_l06Bit(k:Nat)(x0:Bool)(x1:ByteArray):Option ByteArray:=
 (bif x0 then some x1 else some (⟨#[45]⟩:ByteArray))
theorem spec_l06Bit_run(k:Nat)(x0:Bool)(x1:ByteArray):c_spec_l06Bit (k+1) (x0,x1)=spec_l06Bit k x0 x1:=by kernel_rfl
def spec_PermOf_l1(k:Nat)(self:_→Option Int)(d:DacceptRange):=
 (bif (decide (d.2<(2:Int)))then(if((8:Int):Int)≠0 then self ((wrapK .i64 (d.1.tdiv (8:Int))),(wrapK .i64 (d.2+(1:Int))))else none)else(if((8:Int):Int)≠0 then some (d.1.tmod (8:Int))else none))
def spec_PermOf(k:Nat)(x0:Int)(x1:Int):Option Int:=
 (c_spec_l06Mode k x0).bind fun y1=>
 (bif (!y1)then some (0:Int)else(c_spec_l01In k (x1,(0:Int),(2:Int))).bind fun y2=>
 (bif (!y2)then some (0:Int)else iter k (spec_PermOf_l1 k) (x0,x1)))
theorem spec_PermOf_run(k:Nat)(x0:Int)(x1:Int):c_spec_PermOf (k+1) (x0,x1)=spec_PermOf k x0 x1:=by kernel_rfl
def spec_FormatMode_l1(k:Nat)(self:_→Option ByteArray)(d:(Int×DerrorAddressString)):=
 (bif (decide (d.2.2<(3:Int)))then(c_spec_PermOf k (d.1,d.2.2)).bind fun v0=>
 (c_spec_l06Bit k (((intBits .and .i64 v0 (4:Int)) != (0:Int)),(⟨#[114]⟩:ByteArray))).bind fun v1=>
 (if d.2.1.size+v1.size≤9223372036854775807 then(c_spec_l06Bit k (((intBits .and .i64 v0 (2:Int)) != (0:Int)),(⟨#[119]⟩:ByteArray))).bind fun v2=>
 (if(d.2.1++v1).size+v2.size≤9223372036854775807 then(c_spec_l06Bit k (((intBits .and .i64 v0 (1:Int)) != (0:Int)),(⟨#[120]⟩:ByteArray))).bind fun v3=>
 (if((d.2.1++v1)++v2).size+v3.size≤9223372036854775807 then self (d.1,(((d.2.1++v1)++v2)++v3),(wrapK .i64 (d.2.2+(1:Int))))else none)else none)else none)else some d.2.1)
def spec_FormatMode(k:Nat)(x0:Int):Option ByteArray:=
 (c_spec_l06Mode k x0).bind fun y1=>
 (bif (!y1)then some (⟨#[]⟩:ByteArray)else(c_spec_l06Bit k (((intBits .and .i64 x0 (1024:Int)) != (0:Int)),(⟨#[115]⟩:ByteArray))).bind fun y2=>
 (c_spec_l06Bit k (((intBits .and .i64 x0 (512:Int)) != (0:Int)),(⟨#[116]⟩:ByteArray))).bind fun y3=>
 (if y2.size+y3.size≤9223372036854775807 then iter k (spec_FormatMode_l1 k) (x0,(y2++y3),(0:Int))else none))
theorem spec_FormatMode_run(k:Nat)(x0:Int):c_spec_FormatMode (k+1) (x0)=spec_FormatMode k x0:=by kernel_rfl
def spec_ParseMode_l1(k:Nat)(self:_→Option (Int×Bool))(d:(ByteArray×DacceptRange)):=
 (bif (decide (d.2.2<(d.1.size:Int)))then(bif (decide (d.2.2<(11:Int)))then(if 0≤d.2.2 then((d.1[d.2.2.toNat]?.map fun v0=>(v0.toNat:Int))).bind fun v1=>
 (bif (v1 != (45:Int))then self (d.1,(wrapK .i64 ((wrapK .i64 ((2:Int)*d.2.1))+(1:Int))),(wrapK .i64 (d.2.2+(1:Int))))else self (d.1,(wrapK .i64 ((2:Int)*d.2.1)),(wrapK .i64 (d.2.2+(1:Int)))))else none)else(c_spec_FormatMode k d.2.1).bind fun v2=>
 (bif (!(eqS v2 d.1))then some ((0:Int),false)else some (d.2.1,true)))else(c_spec_FormatMode k d.2.1).bind fun v3=>
 (bif (!(eqS v3 d.1))then some ((0:Int),false)else some (d.2.1,true)))
def spec_ParseMode(k:Nat)(x0:ByteArray):Option (Int×Bool):=
 iter k (spec_ParseMode_l1 k) (x0,(0:Int),(0:Int))
theorem spec_ParseMode_run(k:Nat)(x0:ByteArray):c_spec_ParseMode (k+1) (x0)=spec_ParseMode k x0:=by kernel_rfl
def spec_IsDigits_l1(k:Nat)(self:_→Option Bool)(d:DerrorAddressString):=
 (bif (decide (d.2<(d.1.size:Int)))then(if 0≤d.2 then((d.1[d.2.toNat]?.map fun v0=>(v0.toNat:Int))).bind fun v1=>
 (bif (decide (v1<(48:Int)))then some false else(if 0≤d.2 then((d.1[d.2.toNat]?.map fun v0=>(v0.toNat:Int))).bind fun v2=>
 (bif (decide ((57:Int)<v2))then some false else self (d.1,(wrapK .i64 (d.2+(1:Int)))))else none))else none)else some (decide ((0:Int)<(d.1.size:Int))))
def spec_IsDigits(k:Nat)(x0:ByteArray):Option Bool:=
 iter k (spec_IsDigits_l1 k) (x0,(0:Int))
theorem spec_IsDigits_run(k:Nat)(x0:ByteArray):c_spec_IsDigits (k+1) (x0)=spec_IsDigits k x0:=by kernel_rfl
def spec_FormatInt_l1(k:Nat)(self:_→Option ByteArray)(d:(Int×ByteArray)):=
 (bif (decide ((9:Int)<d.1))then(if((10:Int):Int)≠0 then(if(ofBytes ([(wrapK .u8 (wrapK .i64 ((48:Int)+(d.1.tmod (10:Int)))))]:List Int)).size+d.2.size≤9223372036854775807 then(if((10:Int):Int)≠0 then self ((wrapK .i64 (d.1.tdiv (10:Int))),((ofBytes ([(wrapK .u8 (wrapK .i64 ((48:Int)+(d.1.tmod (10:Int)))))]:List Int))++d.2))else none)else none)else none)else(if(ofBytes ([(wrapK .u8 (wrapK .i64 ((48:Int)+d.1)))]:List Int)).size+d.2.size≤9223372036854775807 then some ((ofBytes ([(wrapK .u8 (wrapK .i64 ((48:Int)+d.1)))]:List Int))++d.2)else none))
def spec_FormatInt(k:Nat)(x0:Int):Option ByteArray:=
 (bif (decide (x0<(0:Int)))then(if((10:Int):Int)≠0 then(bif ((wrapK .i64 (x0.tdiv (10:Int)))==(0:Int))then(if(⟨#[45]⟩:ByteArray).size+(ofBytes ([(wrapK .u8 (wrapK .i64 ((48:Int)-x0)))]:List Int)).size≤9223372036854775807 then some ((⟨#[45]⟩:ByteArray)++(ofBytes ([(wrapK .u8 (wrapK .i64 ((48:Int)-x0)))]:List Int)))else none)else(if((10:Int):Int)≠0 then(c_spec_FormatInt k (wrapK .i64 (x0.tdiv (10:Int)))).bind fun y1=>
 (if((10:Int):Int)≠0 then(if y1.size+(ofBytes ([(wrapK .u8 (wrapK .i64 ((48:Int)-(x0.tmod (10:Int)))))]:List Int)).size≤9223372036854775807 then some (y1++(ofBytes ([(wrapK .u8 (wrapK .i64 ((48:Int)-(x0.tmod (10:Int)))))]:List Int)))else none)else none)else none))else none)else iter k (spec_FormatInt_l1 k) (x0,(⟨#[]⟩:ByteArray)))
theorem spec_FormatInt_run(k:Nat)(x0:Int):c_spec_FormatInt (k+1) (x0)=spec_FormatInt k x0:=by kernel_rfl
def spec_ParseInt_l1(k:Nat)(self:_→Option (Int×Bool))(d:(ByteArray×(Bool×(ByteArray×DacceptRange)))):=
 let e0:=d.2.2.2.2
 (bif (decide (e0<(d.2.2.1.size:Int)))then(if 0≤e0 then((d.2.2.1[e0.toNat]?.map fun v0=>(v0.toNat:Int))).bind fun v1=>
 (if((10:Int):Int)≠0 then(bif (decide (d.2.2.2.1<(wrapK .i64 ((wrapK .i64 ((-9223372036854775808:Int)+(wrapK .i64 ((wrapK .i64 v1)-(48:Int))))).tdiv (10:Int)))))then some ((0:Int),false)else self (d.1,d.2.1,d.2.2.1,(wrapK .i64 ((wrapK .i64 (d.2.2.2.1*(10:Int)))-(wrapK .i64 ((wrapK .i64 v1)-(48:Int))))),(wrapK .i64 (e0+(1:Int)))))else none)else none)else(joinK (R:=(Int×Bool)) ((bif (!d.2.1)then(bif (d.2.2.2.1==(-9223372036854775808:Int))then((some ((0:Int),false)).map .inr)else some (.inl (d.1,(wrapK .i64 (0-d.2.2.2.1)))))else some (.inl (d.1,d.2.2.2.1)))) fun(v2:DerrorAddressString)=>(c_spec_FormatInt k v2.2).bind fun v3=>
 (bif (!(eqS v3 v2.1))then some ((0:Int),false)else some (v2.2,true))))
def spec_ParseInt(k:Nat)(x0:ByteArray):Option (Int×Bool):=
 (joinK (R:=(Int×Bool)) ((bif (decide ((0:Int)<(x0.size:Int)))then(if 0≤(0:Int)then((x0[(0:Int).toNat]?.map fun c=>(c.toNat:Int))).bind fun y2=>
 some (.inl (x0,(y2==(45:Int))))else none)else some (.inl (x0,false)))) fun(d1:(ByteArray×Bool))=>(joinK (R:=(Int×Bool)) ((bif d1.2 then(if 0≤(1:Int)then(if(1:Int)≤(d1.1.size:Int)then some (.inl (d1.1,d1.2,(d1.1.extract ((1:Int).toNat) d1.1.size)))else none)else none)else some (.inl (d1.1,d1.2,d1.1)))) fun(d3:(ByteArray×(Bool×ByteArray)))=>(c_spec_IsDigits k d3.2.2).bind fun y4=>
 (bif (!y4)then some ((0:Int),false)else(bif (decide ((19:Int)<(d3.2.2.size:Int)))then some ((0:Int),false)else iter k (spec_ParseInt_l1 k) (d3.1,d3.2.1,d3.2.2,(0:Int),(0:Int))))))
theorem spec_ParseInt_run(k:Nat)(x0:ByteArray):c_spec_ParseInt (k+1) (x0)=spec_ParseInt k x0:=by kernel_rfl
def spec_l05Entry(k:Nat)(x0:DAclEntry):Option Bool:=
 (c_spec_l01In k (x0.2.2,(0:Int),(7:Int))).bind fun y1=>
 (bif (!y1)then some false else(bif (x0.1==(1:Int))then(bif (x0.1==(1:Int))then(c_spec_l01In k (x0.2.1,(0:Int),(3:Int))).bind fun y2=>
 some y2 else(bif (x0.1==(3:Int))then some (x0.2.1==(0:Int))else some false))else(bif (x0.1==(2:Int))then(c_spec_l01In k (x0.2.1,(0:Int),(3:Int))).bind fun y3=>
 some y3 else(bif (x0.1==(3:Int))then some (x0.2.1==(0:Int))else some false))))
theorem spec_l05Entry_run(k:Nat)(x0:DAclEntry):c_spec_l05Entry (k+1) (x0)=spec_l05Entry k x0:=by kernel_rfl
def spec_IsAcl_l1(k:Nat)(self:_→Option Bool)(d:((List DAclEntry)×((List DAclEntry)×DacceptRange))):=
 (bif (decide (d.2.2.2<d.2.2.1))then(if 0≤d.2.2.2 then(d.2.1[d.2.2.2.toNat]?).bind fun v0=>
 (c_spec_l05Entry k v0).bind fun v1=>
 (bif (!v1)then some false else(bif (decide ((0:Int)<d.2.2.2))then(if 0≤(wrapK .i64 (d.2.2.2-(1:Int)))then(d.1[(wrapK .i64 (d.2.2.2-(1:Int))).toNat]?).bind fun v2=>
 (bif (decide (v0.1<v2.1))then some false else(if 0≤(wrapK .i64 (d.2.2.2-(1:Int)))then(d.1[(wrapK .i64 (d.2.2.2-(1:Int))).toNat]?).bind fun v3=>
 (bif (v3.1==v0.1)then(if 0≤(wrapK .i64 (d.2.2.2-(1:Int)))then(d.1[(wrapK .i64 (d.2.2.2-(1:Int))).toNat]?).bind fun v4=>
 (bif (decide (v0.2.1≤v4.2.1))then some false else self (d.1,d.2.1,d.2.2.1,(wrapK .i64 (d.2.2.2+(1:Int)))))else none)else self (d.1,d.2.1,d.2.2.1,(wrapK .i64 (d.2.2.2+(1:Int)))))else none))else none)else self (d.1,d.2.1,d.2.2.1,(wrapK .i64 (d.2.2.2+(1:Int))))))else none)else(bif ((d.1.length:Int)==(0:Int))then some true else(bif (decide ((d.1.length:Int)≤(6:Int)))then(if 0≤(wrapK .i64 ((d.1.length:Int)-(1:Int)))then(d.1[(wrapK .i64 ((d.1.length:Int)-(1:Int))).toNat]?).bind fun v5=>
 some (v5.1==(3:Int))else none)else some false)))
def spec_IsAcl(k:Nat)(x0:(List DAclEntry)):Option Bool:=
 iter k (spec_IsAcl_l1 k) (x0,x0,(x0.length:Int),(0:Int))
theorem spec_IsAcl_run(k:Nat)(x0:(List DAclEntry)):c_spec_IsAcl (k+1) (x0)=spec_IsAcl k x0:=by kernel_rfl
def spec_Join_l1(k:Nat)(self:_→Option ByteArray)(d:(ByteArray×(ByteArray×((List ByteArray)×DacceptRange)))):=
 let e0:=d.2.2.2.2
 (bif (decide (e0<d.2.2.2.1))then(if 0≤e0 then(d.2.2.1[e0.toNat]?).bind fun v0=>
 (bif (decide ((0:Int)<e0))then(if d.2.1.size+d.1.size≤9223372036854775807 then(if(d.2.1++d.1).size+v0.size≤9223372036854775807 then self (d.1,((d.2.1++d.1)++v0),d.2.2.1,d.2.2.2.1,(wrapK .i64 (e0+(1:Int))))else none)else none)else(if d.2.1.size+v0.size≤9223372036854775807 then self (d.1,(d.2.1++v0),d.2.2.1,d.2.2.2.1,(wrapK .i64 (e0+(1:Int))))else none))else none)else some d.2.1)
def spec_Join(k:Nat)(x0:(List ByteArray))(x1:ByteArray):Option ByteArray:=
 iter k (spec_Join_l1 k) (x1,(⟨#[]⟩:ByteArray),x0,(x0.length:Int),(0:Int))
theorem spec_Join_run(k:Nat)(x0:(List ByteArray))(x1:ByteArray):c_spec_Join (k+1) (x0,x1)=spec_Join k x0 x1:=by kernel_rfl
def spec_FormatAcl_l1(k:Nat)(self:_→Option ByteArray)(d:((List ByteArray)×((List DAclEntry)×DacceptRange))):=
 (bif (decide (d.2.2.2<d.2.2.1))then(if 0≤d.2.2.2 then(d.2.1[d.2.2.2.toNat]?).bind fun v0=>
 (if 0≤(wrapK .i64 (v0.1+(1:Int)))then(if(wrapK .i64 (v0.1+(1:Int)))≤(((⟨#[63,117,103,109]⟩:ByteArray).size:Nat):Int)then(if 0≤v0.1 then(if v0.1≤(((wrapK .i64 (v0.1+(1:Int))).toNat:Nat):Int)then(c_spec_FormatInt k v0.2.1).bind fun v1=>
 (if((⟨#[63,117,103,109]⟩:ByteArray).extract v0.1.toNat ((wrapK .i64 (v0.1+(1:Int))).toNat)).size+v1.size≤9223372036854775807 then(if(((⟨#[63,117,103,109]⟩:ByteArray).extract v0.1.toNat ((wrapK .i64 (v0.1+(1:Int))).toNat))++v1).size+(⟨#[58]⟩:ByteArray).size≤9223372036854775807 then(c_spec_FormatInt k v0.2.2).bind fun v2=>
 (if((((⟨#[63,117,103,109]⟩:ByteArray).extract v0.1.toNat ((wrapK .i64 (v0.1+(1:Int))).toNat))++v1)++(⟨#[58]⟩:ByteArray)).size+v2.size≤9223372036854775807 then(if(d.1.length+([(((((⟨#[63,117,103,109]⟩:ByteArray).extract v0.1.toNat ((wrapK .i64 (v0.1+(1:Int))).toNat))++v1)++(⟨#[58]⟩:ByteArray))++v2)]:List ByteArray).length)*16≤capBytes then self ((d.1++([(((((⟨#[63,117,103,109]⟩:ByteArray).extract v0.1.toNat ((wrapK .i64 (v0.1+(1:Int))).toNat))++v1)++(⟨#[58]⟩:ByteArray))++v2)]:List ByteArray)),d.2.1,d.2.2.1,(wrapK .i64 (d.2.2.2+(1:Int))))else none)else none)else none)else none)else none)else none)else none)else none)else none)else(bif ((d.1.length:Int)==(0:Int))then some (⟨#[45]⟩:ByteArray)else(c_spec_Join k (d.1,(⟨#[44]⟩:ByteArray))).bind fun v3=>
 some v3))
def spec_FormatAcl(k:Nat)(x0:(List DAclEntry)):Option ByteArray:=
 (c_spec_IsAcl k x0).bind fun y1=>
 (bif (!y1)then some (⟨#[]⟩:ByteArray)else iter k (spec_FormatAcl_l1 k) (([]:List ByteArray),x0,(x0.length:Int),(0:Int)))
theorem spec_FormatAcl_run(k:Nat)(x0:(List DAclEntry)):c_spec_FormatAcl (k+1) (x0)=spec_FormatAcl k x0:=by kernel_rfl
def spec_ParseAcl_l1(k:Nat)(self:_→Option ((List DAclEntry)×Bool))(d:(ByteArray×((List DAclEntry)×((List ByteArray)×DacceptRange)))):=
 let e1:=d.2.2.2.2
 (bif (decide (e1<d.2.2.2.1))then(if 0≤e1 then(if e1<(d.2.2.1.length:Int)then(d.2.2.1[e1.toNat]?).bind fun v0=>
 (c_spec_SplitAny k (v0,(⟨#[58]⟩:ByteArray))).bind fun v1=>
 (bif (eqS d.1 (⟨#[45]⟩:ByteArray))then(c_spec_FormatAcl k d.2.1).bind fun v2=>
 (bif (eqS v2 (⟨#[]⟩:ByteArray))then some (([]:List DAclEntry),false)else(c_spec_FormatAcl k d.2.1).bind fun v3=>
 (bif (!(eqS v3 d.1))then some (([]:List DAclEntry),false)else some (d.2.1,true)))else(bif ((v1.length:Int) != (2:Int))then some (([]:List DAclEntry),false)else(if 0≤(0:Int)then(if(0:Int)<(v1.length:Int)then(v1[(0:Int).toNat]?).bind fun v4=>
 (bif (decide ((v4.size:Int)<(2:Int)))then some (([]:List DAclEntry),false)else(joinK (R:=((List DAclEntry)×Bool)) ((if 0≤(0:Int)then(if(0:Int)<(v1.length:Int)then(v1[(0:Int).toNat]?).bind fun v5=>
 (if 0≤(0:Int)then((v5[(0:Int).toNat]?.map fun v6=>(v6.toNat:Int))).bind fun v7=>
 (bif (v7==(117:Int))then some (.inl (d.1,d.2.1,v1,(),d.2.2.1,d.2.2.2.1,e1,((1:Int),(0:Int),(0:Int))))else(bif (v7==(103:Int))then some (.inl (d.1,d.2.1,v1,(),d.2.2.1,d.2.2.2.1,e1,((2:Int),(0:Int),(0:Int))))else(bif (v7==(109:Int))then some (.inl (d.1,d.2.1,v1,(),d.2.2.1,d.2.2.2.1,e1,((3:Int),(0:Int),(0:Int))))else some (.inl (d.1,d.2.1,v1,(),d.2.2.1,d.2.2.2.1,e1,((0:Int),(0:Int),(0:Int)))))))else none)else none)else none)) fun(v8:(ByteArray×((List DAclEntry)×((List ByteArray)×(Unit×((List ByteArray)×(Int×(Int×DAclEntry))))))))=>let e0:=v8.2.2.2.2;(if 0≤(0:Int)then(if(0:Int)<(v8.2.2.1.length:Int)then(v8.2.2.1[(0:Int).toNat]?).bind fun v9=>
 (if 0≤(1:Int)then(if(1:Int)≤(v9.size:Int)then(c_spec_ParseInt k (v9.extract ((1:Int).toNat) v9.size)).bind fun v10=>
 (if 0≤(1:Int)then(if(1:Int)<(v8.2.2.1.length:Int)then(v8.2.2.1[(1:Int).toNat]?).bind fun v11=>
 (c_spec_ParseInt k v11).bind fun v12=>
 (if(v8.2.1.length+([(e0.2.2.2.1,v10.1,v12.1)]:List DAclEntry).length)*24≤capBytes then self (v8.1,(v8.2.1++([(e0.2.2.2.1,v10.1,v12.1)]:List DAclEntry)),e0.1,e0.2.1,(wrapK .i64 (e0.2.2.1+(1:Int))))else none)else none)else none)else none)else none)else none)else none)))else none)else none)))else none)else none)else(c_spec_FormatAcl k d.2.1).bind fun v13=>
 (bif (eqS v13 (⟨#[]⟩:ByteArray))then some (([]:List DAclEntry),false)else(c_spec_FormatAcl k d.2.1).bind fun v14=>
 (bif (!(eqS v14 d.1))then some (([]:List DAclEntry),false)else some (d.2.1,true))))
def spec_ParseAcl(k:Nat)(x0:ByteArray):Option ((List DAclEntry)×Bool):=
 (c_spec_SplitAny k (x0,(⟨#[44]⟩:ByteArray))).bind fun y1=>
 iter k (spec_ParseAcl_l1 k) (x0,([]:List DAclEntry),y1,(y1.length:Int),(0:Int))
theorem spec_ParseAcl_run(k:Nat)(x0:ByteArray):c_spec_ParseAcl (k+1) (x0)=spec_ParseAcl k x0:=by kernel_rfl
def spec_UnhexText_l1(k:Nat)(a0:_→Option (ByteArray×Bool))(self:_→Option (ByteArray×Bool))(d:(ByteArray×((List Int)×(Int×(Int×((List Int)×DacceptRange)))))):=
 let e0:=d.2.2.2.2
 (bif (decide (e0.2.2<e0.2.1))then(if 0≤e0.2.2 then(if e0.2.2<(e0.1.length:Int)then(e0.1[e0.2.2.toNat]?).bind fun v0=>
 (bif (decide ((48:Int)≤v0))then(bif (decide (v0≤(57:Int)))then self (d.1,d.2.1,d.2.2.1,(wrapK .i64 ((wrapK .i64 ((wrapK .i64 ((16:Int)*d.2.2.2.1))+(wrapK .i64 v0)))-(48:Int))),e0.1,e0.2.1,(wrapK .i64 (e0.2.2+(1:Int))))else(bif (decide ((97:Int)≤v0))then(bif (decide (v0≤(102:Int)))then self (d.1,d.2.1,d.2.2.1,(wrapK .i64 ((wrapK .i64 ((wrapK .i64 ((16:Int)*d.2.2.2.1))+(wrapK .i64 v0)))-(87:Int))),e0.1,e0.2.1,(wrapK .i64 (e0.2.2+(1:Int))))else some ((⟨#[]⟩:ByteArray),false))else some ((⟨#[]⟩:ByteArray),false)))else(bif (decide ((97:Int)≤v0))then(bif (decide (v0≤(102:Int)))then self (d.1,d.2.1,d.2.2.1,(wrapK .i64 ((wrapK .i64 ((wrapK .i64 ((16:Int)*d.2.2.2.1))+(wrapK .i64 v0)))-(87:Int))),e0.1,e0.2.1,(wrapK .i64 (e0.2.2+(1:Int))))else some ((⟨#[]⟩:ByteArray),false))else some ((⟨#[]⟩:ByteArray),false)))else none)else none)else(if(d.2.1.length+([(wrapK .u8 d.2.2.2.1)]:List Int).length)*1≤capBytes then a0 (d.1,(d.2.1++([(wrapK .u8 d.2.2.2.1)]:List Int)),(wrapK .i64 (d.2.2.1+(2:Int))))else none))
def spec_UnhexText_l2(k:Nat)(self:_→Option (ByteArray×Bool))(d:(ByteArray×((List Int)×Int))):=
 (bif (decide (d.2.2<(d.1.size:Int)))then(if 0≤d.2.2 then((d.1[d.2.2.toNat]?.map fun v0=>(v0.toNat:Int))).bind fun v1=>
 (if 0≤(wrapK .i64 (d.2.2+(1:Int)))then((d.1[(wrapK .i64 (d.2.2+(1:Int))).toNat]?.map fun v0=>(v0.toNat:Int))).bind fun v2=>
 iter k (spec_UnhexText_l1 k self) (d.1,d.2.1,d.2.2,(0:Int),([v1,v2]:List Int),((([v1,v2]:List Int).length:Nat):Int),(0:Int))else none)else none)else some ((ofBytes d.2.1),true))
def spec_UnhexText(k:Nat)(x0:ByteArray):Option (ByteArray×Bool):=
 (if((2:Int):Int)≠0 then(bif (((x0.size:Int).tmod (2:Int)) != (0:Int))then some ((⟨#[]⟩:ByteArray),false)else iter k (spec_UnhexText_l2 k) (x0,([]:List Int),(0:Int)))else none)
theorem spec_UnhexText_run(k:Nat)(x0:ByteArray):c_spec_UnhexText (k+1) (x0)=spec_UnhexText k x0:=by kernel_rfl
def spec_IsEntryName_l1(k:Nat)(self:_→Option Bool)(d:DerrorAddressString):=
 (bif (decide (d.2<(d.1.size:Int)))then(if 0≤d.2 then((d.1[d.2.toNat]?.map fun v0=>(v0.toNat:Int))).bind fun v1=>
 (bif (v1==(0:Int))then some false else(if 0≤d.2 then((d.1[d.2.toNat]?.map fun v0=>(v0.toNat:Int))).bind fun v2=>
 (bif (v2==(47:Int))then some false else self (d.1,(wrapK .i64 (d.2+(1:Int)))))else none))else none)else some true)
def spec_IsEntryName(k:Nat)(x0:ByteArray):Option Bool:=
 (c_spec_l01In k ((x0.size:Int),(1:Int),(12:Int))).bind fun y1=>
 (bif (!y1)then some false else(bif (eqS x0 (⟨#[46]⟩:ByteArray))then some false else(bif (eqS x0 (⟨#[46,46]⟩:ByteArray))then some false else iter k (spec_IsEntryName_l1 k) (x0,(0:Int)))))
theorem spec_IsEntryName_run(k:Nat)(x0:ByteArray):c_spec_IsEntryName (k+1) (x0)=spec_IsEntryName k x0:=by kernel_rfl
def spec_l23Plain_l1(k:Nat)(self:_→Option Bool)(d:DerrorAddressString):=
 (bif (decide (d.2<(d.1.size:Int)))then(if 0≤d.2 then((d.1[d.2.toNat]?.map fun v0=>(v0.toNat:Int))).bind fun v1=>
 (bif (v1==(32:Int))then some false else(if 0≤d.2 then((d.1[d.2.toNat]?.map fun v0=>(v0.toNat:Int))).bind fun v2=>
 (bif (v2==(10:Int))then some false else self (d.1,(wrapK .i64 (d.2+(1:Int)))))else none))else none)else(c_spec_IsEntryName k d.1).bind fun v3=>
 some v3)
def spec_l23Plain(k:Nat)(x0:ByteArray):Option Bool:=
 iter k (spec_l23Plain_l1 k) (x0,(0:Int))
theorem spec_l23Plain_run(k:Nat)(x0:ByteArray):c_spec_l23Plain (k+1) (x0)=spec_l23Plain k x0:=by kernel_rfl
def spec_l23Path_l1(k:Nat)(self:_→Option Bool)(d:((List ByteArray)×(Unit×DacceptRange))):=
 (bif (decide (d.2.2.2<d.2.2.1))then(if 0≤d.2.2.2 then(if d.2.2.2<(d.1.length:Int)then(d.1[d.2.2.2.toNat]?).bind fun v0=>
 (c_spec_l23Plain k v0).bind fun v1=>
 (bif (!v1)then some false else self (d.1,(),d.2.2.1,(wrapK .i64 (d.2.2.2+(1:Int)))))else none)else none)else some (decide ((d.1.length:Int)≤(8:Int))))
def spec_l23Path(k:Nat)(x0:ByteArray):Option Bool:=
 (c_spec_SplitAny k (x0,(⟨#[47]⟩:ByteArray))).bind fun y1=>
 iter k (spec_l23Path_l1 k) (y1,(),(y1.length:Int),(0:Int))
theorem spec_l23Path_run(k:Nat)(x0:ByteArray):c_spec_l23Path (k+1) (x0)=spec_l23Path k x0:=by kernel_rfl
def spec_HexOf_l1(k:Nat)(self:_→Option ByteArray)(d:(ByteArray×((List Int)×Int))):=
 (bif (decide (d.2.2<(d.1.size:Int)))then(if 0≤d.2.2 then((d.1[d.2.2.toNat]?.map fun v0=>(v0.toNat:Int))).bind fun v1=>
 (if((16:Int):Int)≠0 then(if 0≤(wrapK .u8 (v1.tdiv (16:Int)))then(((⟨#[48,49,50,51,52,53,54,55,56,57,97,98,99,100,101,102]⟩:ByteArray)[(wrapK .u8 (v1.tdiv (16:Int))).toNat]?.map fun v0=>(v0.toNat:Int))).bind fun v2=>
 (if 0≤d.2.2 then((d.1[d.2.2.toNat]?.map fun v0=>(v0.toNat:Int))).bind fun v3=>
 (if((16:Int):Int)≠0 then(if 0≤(v3.tmod (16:Int))then(((⟨#[48,49,50,51,52,53,54,55,56,57,97,98,99,100,101,102]⟩:ByteArray)[(v3.tmod (16:Int)).toNat]?.map fun v0=>(v0.toNat:Int))).bind fun v4=>
 (if(d.2.1.length+([v2,v4]:List Int).length)*1≤capBytes then self (d.1,(d.2.1++([v2,v4]:List Int)),(wrapK .i64 (d.2.2+(1:Int))))else none)else none)else none)else none)else none)else none)else none)else some (ofBytes d.2.1))
def spec_HexOf(k:Nat)(x0:ByteArray):Option ByteArray:=
 iter k (spec_HexOf_l1 k) (x0,([]:List Int),(0:Int))
theorem spec_HexOf_run(k:Nat)(x0:ByteArray):c_spec_HexOf (k+1) (x0)=spec_HexOf k x0:=by kernel_rfl
def spec_FormatItem(k:Nat)(x0:DArchiveItem):Option ByteArray:=
 (c_spec_l23Path k x0.2.1).bind fun y1=>
 (bif (!y1)then some (⟨#[]⟩:ByteArray)else(c_spec_l06Mode k x0.2.2.1).bind fun y2=>
 (bif (!y2)then some (⟨#[]⟩:ByteArray)else(c_spec_IsAcl k x0.2.2.2.1).bind fun y3=>
 (bif (!y3)then some (⟨#[]⟩:ByteArray)else(c_spec_FormatMode k x0.2.2.1).bind fun y4=>
 (c_spec_FormatAcl k x0.2.2.2.1).bind fun y5=>
 (bif x0.1 then(if 0≤(0:Int)then(if(0:Int)<((([(⟨#[102]⟩:ByteArray),x0.2.1,y4,y5]:List ByteArray).length:Nat):Int)then(([(⟨#[102]⟩:ByteArray),x0.2.1,y4,y5]:List ByteArray)[(0:Int).toNat]?).bind fun y6=>
 (bif (!(eqS x0.2.2.2.2 (⟨#[]⟩:ByteArray)))then some (⟨#[]⟩:ByteArray)else(c_spec_Join k ((([(⟨#[102]⟩:ByteArray),x0.2.1,y4,y5]:List ByteArray).set (0:Int).toNat (⟨#[100]⟩:ByteArray)),(⟨#[32]⟩:ByteArray))).bind fun y7=>
 some y7)else none)else none)else(bif (decide ((256:Int)<(x0.2.2.2.2.size:Int)))then some (⟨#[]⟩:ByteArray)else(bif ((intBits .and .i64 x0.2.2.1 (512:Int)) != (0:Int))then some (⟨#[]⟩:ByteArray)else(bif (eqS x0.2.2.2.2 (⟨#[]⟩:ByteArray))then(if(([(⟨#[102]⟩:ByteArray),x0.2.1,y4,y5]:List ByteArray).length+([(⟨#[45]⟩:ByteArray)]:List ByteArray).length)*16≤capBytes then(c_spec_Join k ((([(⟨#[102]⟩:ByteArray),x0.2.1,y4,y5]:List ByteArray)++([(⟨#[45]⟩:ByteArray)]:List ByteArray)),(⟨#[32]⟩:ByteArray))).bind fun y8=>
 some y8 else none)else(c_spec_HexOf k x0.2.2.2.2).bind fun y9=>
 (if(([(⟨#[102]⟩:ByteArray),x0.2.1,y4,y5]:List ByteArray).length+([y9]:List ByteArray).length)*16≤capBytes then(c_spec_Join k ((([(⟨#[102]⟩:ByteArray),x0.2.1,y4,y5]:List ByteArray)++([y9]:List ByteArray)),(⟨#[32]⟩:ByteArray))).bind fun y10=>
 some y10 else none))))))))
theorem spec_FormatItem_run(k:Nat)(x0:DArchiveItem):c_spec_FormatItem (k+1) (x0)=spec_FormatItem k x0:=by kernel_rfl
def spec_l23Text_l1(k:Nat)(self:_→Option ByteArray)(d:(ByteArray×((List ByteArray)×DacceptRange))):=
 (bif (decide (d.2.2.2<d.2.2.1))then(if 0≤d.2.2.2 then(d.2.1[d.2.2.2.toNat]?).bind fun v0=>
 (if d.1.size+v0.size≤9223372036854775807 then(if(d.1++v0).size+(⟨#[10]⟩:ByteArray).size≤9223372036854775807 then self (((d.1++v0)++(⟨#[10]⟩:ByteArray)),d.2.1,d.2.2.1,(wrapK .i64 (d.2.2.2+(1:Int))))else none)else none)else none)else some d.1)
def spec_l23Text(k:Nat)(x0:(List ByteArray)):Option ByteArray:=
 iter k (spec_l23Text_l1 k) ((⟨#[]⟩:ByteArray),x0,(x0.length:Int),(0:Int))
theorem spec_l23Text_run(k:Nat)(x0:(List ByteArray)):c_spec_l23Text (k+1) (x0)=spec_l23Text k x0:=by kernel_rfl
def spec_ReadArchive_l1(k:Nat)(self:_→Option ((List DArchiveItem)×Bool))(d:(ByteArray×((List DArchiveItem)×((List ByteArray)×(Unit×DacceptRange))))):=
 let e2:=d.2.2.2.2
 (bif (decide (e2.2<e2.1))then(if 0≤e2.2 then(if e2.2<(d.2.2.1.length:Int)then(d.2.2.1[e2.2.toNat]?).bind fun v0=>
 (c_spec_SplitAny k (v0,(⟨#[32]⟩:ByteArray))).bind fun v1=>
 (bif (decide ((v1.length:Int)<(4:Int)))then some (([]:List DArchiveItem),false)else(if 0≤(0:Int)then(if(0:Int)<(v1.length:Int)then(v1[(0:Int).toNat]?).bind fun v2=>
 (if 0≤(1:Int)then(if(1:Int)<(v1.length:Int)then(v1[(1:Int).toNat]?).bind fun v3=>
 (if 0≤(2:Int)then(if(2:Int)<(v1.length:Int)then(v1[(2:Int).toNat]?).bind fun v4=>
 (c_spec_ParseMode k v4).bind fun v5=>
 (if 0≤(3:Int)then(if(3:Int)<(v1.length:Int)then(v1[(3:Int).toNat]?).bind fun v6=>
 (c_spec_ParseAcl k v6).bind fun v7=>
 (joinK (R:=((List DArchiveItem)×Bool)) ((bif ((v1.length:Int)==(5:Int))then(if 0≤(4:Int)then(if(4:Int)<(v1.length:Int)then(v1[(4:Int).toNat]?).bind fun v8=>
 (bif (!(eqS v8 (⟨#[45]⟩:ByteArray)))then(if 0≤(4:Int)then(if(4:Int)<(v1.length:Int)then(v1[(4:Int).toNat]?).bind fun v9=>
 (c_spec_UnhexText k v9).bind fun v10=>
 some (.inl (d.1,d.2.1,d.2.2.1,v0,(),(),e2.1,e2.2,((eqS v2 (⟨#[100]⟩:ByteArray)),v3,v5.1,v7.1,v10.1)))else none)else none)else some (.inl (d.1,d.2.1,d.2.2.1,v0,(),(),e2.1,e2.2,((eqS v2 (⟨#[100]⟩:ByteArray)),v3,v5.1,v7.1,ByteArray.empty))))else none)else none)else some (.inl (d.1,d.2.1,d.2.2.1,v0,(),(),e2.1,e2.2,((eqS v2 (⟨#[100]⟩:ByteArray)),v3,v5.1,v7.1,ByteArray.empty))))) fun(v11:(ByteArray×((List DArchiveItem)×((List ByteArray)×(ByteArray×(Unit×(Unit×(Int×(Int×DArchiveItem)))))))))=>let e0:=v11.2.2.2.2;let e1:=e0.2.2.2.2;(c_spec_FormatItem k e1).bind fun v12=>
 (bif (eqS v12 (⟨#[]⟩:ByteArray))then some (([]:List DArchiveItem),false)else(c_spec_FormatItem k e1).bind fun v13=>
 (bif (!(eqS v13 v11.2.2.2.1))then some (([]:List DArchiveItem),false)else(if(v11.2.1.length+([e1]:List DArchiveItem).length)*72≤capBytes then self (v11.1,(v11.2.1++([e1]:List DArchiveItem)),v11.2.2.1,(),e0.2.2.1,(wrapK .i64 (e0.2.2.2.1+(1:Int))))else none))))else none)else none)else none)else none)else none)else none)else none)else none))else none)else none)else(c_spec_l23Text k d.2.2.1).bind fun v14=>
 (bif (!(eqS v14 d.1))then some (([]:List DArchiveItem),false)else some (d.2.1,true)))
def spec_ReadArchive(k:Nat)(x0:ByteArray):Option ((List DArchiveItem)×Bool):=
 (c_spec_SplitLines k x0).bind fun y1=>
 iter k (spec_ReadArchive_l1 k) (x0,([]:List DArchiveItem),y1,(),(y1.length:Int),(0:Int))
theorem spec_ReadArchive_run(k:Nat)(x0:ByteArray):c_spec_ReadArchive (k+1) (x0)=spec_ReadArchive k x0:=by kernel_rfl
def impl_SplitLines(k:Nat)(x0:ByteArray):Option (List ByteArray):=
 (c_strings_Split k (x0,(⟨#[10]⟩:ByteArray))).bind fun y1=>
 (if 0≤(wrapK .i64 ((y1.length:Int)-(1:Int)))then(if(wrapK .i64 ((y1.length:Int)-(1:Int)))<(y1.length:Int)then(y1[(wrapK .i64 ((y1.length:Int)-(1:Int))).toNat]?).bind fun y2=>
 (bif (eqS y2 (⟨#[]⟩:ByteArray))then(if 0≤(wrapK .i64 ((y1.length:Int)-(1:Int)))then(if(wrapK .i64 ((y1.length:Int)-(1:Int)))≤(y1.length:Int)then some (y1.take ((wrapK .i64 ((y1.length:Int)-(1:Int))).toNat-0))else none)else none)else some y1)else none)else none)
theorem impl_SplitLines_run(k:Nat)(x0:ByteArray):c_impl_SplitLines (k+1) (x0)=impl_SplitLines k x0:=by kernel_rfl
def impl_SplitAny_l1(k:Nat)(self:_→Option (List ByteArray))(d:(ByteArray×(ByteArray×((List ByteArray)×DAclEntry)))):=
 let e0:=d.2.2.2.2
 (bif (decide (e0.2<e0.1))then(if 0≤e0.2 then((d.1[e0.2.toNat]?.map fun v0=>(v0.toNat:Int))).bind fun v1=>
 (c_strings_IndexByte k (d.2.1,v1)).bind fun v2=>
 (bif (decide ((0:Int)≤v2))then(if 0≤e0.2 then(if e0.2≤(d.1.size:Int)then(if 0≤d.2.2.2.1 then(if d.2.2.2.1≤(e0.2.toNat:Int)then(if(d.2.2.1.length+([(d.1.extract d.2.2.2.1.toNat e0.2.toNat)]:List ByteArray).length)*16≤capBytes then self (d.1,d.2.1,(d.2.2.1++([(d.1.extract d.2.2.2.1.toNat e0.2.toNat)]:List ByteArray)),(wrapK .i64 (e0.2+(1:Int))),e0.1,(wrapK .i64 (e0.2+(1:Int))))else none)else none)else none)else none)else none)else self (d.1,d.2.1,d.2.2.1,d.2.2.2.1,e0.1,(wrapK .i64 (e0.2+(1:Int)))))else none)else(if 0≤d.2.2.2.1 then(if d.2.2.2.1≤(d.1.size:Int)then(if(d.2.2.1.length+([(d.1.extract d.2.2.2.1.toNat d.1.size)]:List ByteArray).length)*16≤capBytes then some (d.2.2.1++([(d.1.extract d.2.2.2.1.toNat d.1.size)]:List ByteArray))else none)else none)else none))
def impl_SplitAny(k:Nat)(x0:ByteArray)(x1:ByteArray):Option (List ByteArray):=
 iter k (impl_SplitAny_l1 k) (x0,x1,([]:List ByteArray),(0:Int),(x0.size:Int),(0:Int))
theorem impl_SplitAny_run(k:Nat)(x0:ByteArray)(x1:ByteArray):c_impl_SplitAny (k+1) (x0,x1)=impl_SplitAny k x0 x1:=by kernel_rfl
def impl_ParseMode_l1(k:Nat)(self:_→Option (Int×Bool))(d:(ByteArray×DAclEntry)):=
 (bif (decide (d.2.2.2<d.2.2.1))then(if 0≤d.2.2.2 then((d.1[d.2.2.2.toNat]?.map fun v0=>(v0.toNat:Int))).bind fun v1=>
 (if 0≤d.2.2.2 then(((⟨#[115,116,114,119,120,114,119,120,114,119,120]⟩:ByteArray)[d.2.2.2.toNat]?.map fun v0=>(v0.toNat:Int))).bind fun v2=>
 (bif (v1==v2)then self (d.1,(wrapK .i64 ((wrapK .i64 (d.2.1*(2:Int)))+(1:Int))),d.2.2.1,(wrapK .i64 (d.2.2.2+(1:Int))))else(bif (v1==(45:Int))then self (d.1,(wrapK .i64 (d.2.1*(2:Int))),d.2.2.1,(wrapK .i64 (d.2.2.2+(1:Int))))else some ((0:Int),false)))else none)else none)else some (d.2.1,true))
def impl_ParseMode(k:Nat)(x0:ByteArray):Option (Int×Bool):=
 (bif ((x0.size:Int) != (11:Int))then some ((0:Int),false)else iter k (impl_ParseMode_l1 k) (x0,(0:Int),(x0.size:Int),(0:Int)))
theorem impl_ParseMode_run(k:Nat)(x0:ByteArray):c_impl_ParseMode (k+1) (x0)=impl_ParseMode k x0:=by kernel_rfl
def impl_isUser(k:Nat)(x0:Int):Option Bool:=
 (bif (decide ((0:Int)≤x0))then some (decide (x0<(4:Int)))else some false)
theorem impl_isUser_run(k:Nat)(x0:Int):c_impl_isUser (k+1) (x0)=impl_isUser k x0:=by kernel_rfl
def cmp_Or_int_l1(k:Nat)(self:_→Option Int)(d:(Int×((List Int)×DacceptRange))):=
 (bif (decide (d.2.2.2<d.2.2.1))then(if 0≤d.2.2.2 then(d.2.1[d.2.2.2.toNat]?).bind fun v0=>
 (bif (v0 != d.1)then some v0 else self (d.1,d.2.1,d.2.2.1,(wrapK .i64 (d.2.2.2+(1:Int)))))else none)else some d.1)
def cmp_Or_int(k:Nat)(x0:(List Int)):Option Int:=
 iter k (cmp_Or_int_l1 k) ((0:Int),x0,(x0.length:Int),(0:Int))
theorem cmp_Or_int_run(k:Nat)(x0:(List Int)):c_cmp_Or_int (k+1) (x0)=cmp_Or_int k x0:=by kernel_rfl
def cmp_isNaN_int(k:Nat)(x0:Int):Option Bool:=
 some (x0 != x0)
theorem cmp_isNaN_int_run(k:Nat)(x0:Int):c_cmp_isNaN_int (k+1) (x0)=cmp_isNaN_int k x0:=by kernel_rfl
def cmp_Compare_int(k:Nat)(x0:Int)(x1:Int):Option Int:=
 (c_cmp_isNaN_int k x0).bind fun y1=>
 (c_cmp_isNaN_int k x1).bind fun y2=>
 (bif y1 then(bif y2 then some (0:Int)else some (-1:Int))else(bif y2 then some (1:Int)else(bif (decide (x0<x1))then some (-1:Int)else(bif (decide (x1<x0))then some (1:Int)else some (0:Int)))))
theorem cmp_Compare_int_run(k:Nat)(x0:Int)(x1:Int):c_cmp_Compare_int (k+1) (x0,x1)=cmp_Compare_int k x0 x1:=by kernel_rfl
def impl_IsAcl_l1(k:Nat)(self:_→Option Bool)(d:((List DAclEntry)×((List DAclEntry)×DacceptRange))):=
 (bif (decide (d.2.2.2<d.2.2.1))then(if 0≤d.2.2.2 then(d.2.1[d.2.2.2.toNat]?).bind fun v0=>
 (bif (decide (v0.2.2<(0:Int)))then some false else(bif (decide ((7:Int)<v0.2.2))then some false else(joinK (R:=Bool) ((bif (v0.1==(1:Int))then(bif (v0.1==(1:Int))then(c_impl_isUser k v0.2.1).bind fun v1=>
 (bif (!v1)then((some false).map .inr)else some (.inl (d.1,d.2.2.2,(),d.2.1,d.2.2.1,d.2.2.2,v0)))else(bif (v0.1==(3:Int))then(bif (v0.2.1 != (0:Int))then((some false).map .inr)else some (.inl (d.1,d.2.2.2,(),d.2.1,d.2.2.1,d.2.2.2,v0)))else((some false).map .inr)))else(bif (v0.1==(2:Int))then(c_impl_isUser k v0.2.1).bind fun v2=>
 (bif (!v2)then((some false).map .inr)else some (.inl (d.1,d.2.2.2,(),d.2.1,d.2.2.1,d.2.2.2,v0)))else(bif (v0.1==(3:Int))then(bif (v0.2.1 != (0:Int))then((some false).map .inr)else some (.inl (d.1,d.2.2.2,(),d.2.1,d.2.2.1,d.2.2.2,v0)))else((some false).map .inr))))) fun(v3:((List DAclEntry)×(Int×(Unit×((List DAclEntry)×(Int×(Int×DAclEntry)))))))=>let e0:=v3.2.2.2.2;(bif (decide ((0:Int)<v3.2.1))then(if 0≤(wrapK .i64 (v3.2.1-(1:Int)))then(v3.1[(wrapK .i64 (v3.2.1-(1:Int))).toNat]?).bind fun v4=>
 (c_cmp_Compare_int k (v4.1,e0.2.2.1)).bind fun v5=>
 (if 0≤(wrapK .i64 (v3.2.1-(1:Int)))then(v3.1[(wrapK .i64 (v3.2.1-(1:Int))).toNat]?).bind fun v6=>
 (c_cmp_Compare_int k (v6.2.1,e0.2.2.2.1)).bind fun v7=>
 (c_cmp_Or_int k ([v5,v7]:List Int)).bind fun v8=>
 (bif (decide ((0:Int)≤v8))then some false else self (v3.1,v3.2.2.2.1,e0.1,(wrapK .i64 (e0.2.1+(1:Int)))))else none)else none)else self (v3.1,v3.2.2.2.1,e0.1,(wrapK .i64 (e0.2.1+(1:Int))))))))else none)else(bif ((d.1.length:Int)==(0:Int))then some true else(if 0≤(wrapK .i64 ((d.1.length:Int)-(1:Int)))then(d.1[(wrapK .i64 ((d.1.length:Int)-(1:Int))).toNat]?).bind fun v9=>
 some (v9.1==(3:Int))else none)))
def impl_IsAcl(k:Nat)(x0:(List DAclEntry)):Option Bool:=
 (bif (decide ((6:Int)<(x0.length:Int)))then some false else iter k (impl_IsAcl_l1 k) (x0,x0,(x0.length:Int),(0:Int)))
theorem impl_IsAcl_run(k:Nat)(x0:(List DAclEntry)):c_impl_IsAcl (k+1) (x0)=impl_IsAcl k x0:=by kernel_rfl
def impl_FormatInt(k:Nat)(x0:Int):Option ByteArray:=
 (c_strconv_Itoa k x0).bind fun y1=>
 some y1
theorem impl_FormatInt_run(k:Nat)(x0:Int):c_impl_FormatInt (k+1) (x0)=impl_FormatInt k x0:=by kernel_rfl
def impl_Join(k:Nat)(x0:(List ByteArray))(x1:ByteArray):Option ByteArray:=
 (c_strings_Join k (x0,x1)).bind fun y1=>
 some y1
theorem impl_Join_run(k:Nat)(x0:(List ByteArray))(x1:ByteArray):c_impl_Join (k+1) (x0,x1)=impl_Join k x0 x1:=by kernel_rfl
def impl_FormatAcl_l1(k:Nat)(self:_→Option ByteArray)(d:((List ByteArray)×((List DAclEntry)×DacceptRange))):=
 (bif (decide (d.2.2.2<d.2.2.1))then(if 0≤d.2.2.2 then(d.2.1[d.2.2.2.toNat]?).bind fun v0=>
 (if 0≤v0.1 then(if v0.1≤(((⟨#[117,103,109]⟩:ByteArray).size:Nat):Int)then(if 0≤(wrapK .i64 (v0.1-(1:Int)))then(if(wrapK .i64 (v0.1-(1:Int)))≤(v0.1.toNat:Int)then(c_impl_FormatInt k v0.2.1).bind fun v1=>
 (if((⟨#[117,103,109]⟩:ByteArray).extract ((wrapK .i64 (v0.1-(1:Int))).toNat) v0.1.toNat).size+v1.size≤9223372036854775807 then(if(((⟨#[117,103,109]⟩:ByteArray).extract ((wrapK .i64 (v0.1-(1:Int))).toNat) v0.1.toNat)++v1).size+(⟨#[58]⟩:ByteArray).size≤9223372036854775807 then(c_impl_FormatInt k v0.2.2).bind fun v2=>
 (if((((⟨#[117,103,109]⟩:ByteArray).extract ((wrapK .i64 (v0.1-(1:Int))).toNat) v0.1.toNat)++v1)++(⟨#[58]⟩:ByteArray)).size+v2.size≤9223372036854775807 then(if(d.1.length+([(((((⟨#[117,103,109]⟩:ByteArray).extract ((wrapK .i64 (v0.1-(1:Int))).toNat) v0.1.toNat)++v1)++(⟨#[58]⟩:ByteArray))++v2)]:List ByteArray).length)*16≤capBytes then self ((d.1++([(((((⟨#[117,103,109]⟩:ByteArray).extract ((wrapK .i64 (v0.1-(1:Int))).toNat) v0.1.toNat)++v1)++(⟨#[58]⟩:ByteArray))++v2)]:List ByteArray)),d.2.1,d.2.2.1,(wrapK .i64 (d.2.2.2+(1:Int))))else none)else none)else none)else none)else none)else none)else none)else none)else none)else(c_impl_Join k (d.1,(⟨#[44]⟩:ByteArray))).bind fun v3=>
 some v3)
def impl_FormatAcl(k:Nat)(x0:(List DAclEntry)):Option ByteArray:=
 (c_impl_IsAcl k x0).bind fun y1=>
 (bif (!y1)then some (⟨#[]⟩:ByteArray)else(bif ((x0.length:Int)==(0:Int))then some (⟨#[45]⟩:ByteArray)else iter k (impl_FormatAcl_l1 k) (([]:List ByteArray),x0,(x0.length:Int),(0:Int))))
theorem impl_FormatAcl_run(k:Nat)(x0:(List DAclEntry)):c_impl_FormatAcl (k+1) (x0)=impl_FormatAcl k x0:=by kernel_rfl
def impl_ParseAcl_l1(k:Nat)(self:_→Option ((List DAclEntry)×Bool))(d:(ByteArray×((List DAclEntry)×((List ByteArray)×DacceptRange)))):=
 let e0:=d.2.2.2.2
 (bif (decide (e0<d.2.2.2.1))then(if 0≤e0 then(if e0<(d.2.2.1.length:Int)then(d.2.2.1[e0.toNat]?).bind fun v0=>
 (bif ((v0.size:Int) != (4:Int))then some (([]:List DAclEntry),false)else(if 0≤(0:Int)then((v0[(0:Int).toNat]?.map fun v1=>(v1.toNat:Int))).bind fun v2=>
 (c_strings_IndexByte k ((⟨#[117,103,109]⟩:ByteArray),v2)).bind fun v3=>
 (if 0≤(1:Int)then((v0[(1:Int).toNat]?.map fun v1=>(v1.toNat:Int))).bind fun v4=>
 (if 0≤(3:Int)then((v0[(3:Int).toNat]?.map fun v1=>(v1.toNat:Int))).bind fun v5=>
 (if(d.2.1.length+([((wrapK .i64 ((1:Int)+v3)),(wrapK .i64 ((wrapK .i64 v4)-(48:Int))),(wrapK .i64 ((wrapK .i64 v5)-(48:Int))))]:List DAclEntry).length)*24≤capBytes then self (d.1,(d.2.1++([((wrapK .i64 ((1:Int)+v3)),(wrapK .i64 ((wrapK .i64 v4)-(48:Int))),(wrapK .i64 ((wrapK .i64 v5)-(48:Int))))]:List DAclEntry)),d.2.2.1,d.2.2.2.1,(wrapK .i64 (e0+(1:Int))))else none)else none)else none)else none))else none)else none)else(c_impl_FormatAcl k d.2.1).bind fun v6=>
 (bif (!(eqS v6 d.1))then some (([]:List DAclEntry),false)else some (d.2.1,true)))
def impl_ParseAcl(k:Nat)(x0:ByteArray):Option ((List DAclEntry)×Bool):=
 (bif (eqS x0 (⟨#[45]⟩:ByteArray))then some (([]:List DAclEntry),true)else(c_impl_SplitAny k (x0,(⟨#[44]⟩:ByteArray))).bind fun y1=>
 iter k (impl_ParseAcl_l1 k) (x0,([]:List DAclEntry),y1,(y1.length:Int),(0:Int)))
theorem impl_ParseAcl_run(k:Nat)(x0:ByteArray):c_impl_ParseAcl (k+1) (x0)=impl_ParseAcl k x0:=by kernel_rfl
def impl_UnhexText_l1(k:Nat)(self:_→Option (ByteArray×Bool))(d:(ByteArray×((List Int)×Int))):=
 (bif (decide (d.2.2<(d.1.size:Int)))then(if 0≤d.2.2 then((d.1[d.2.2.toNat]?.map fun v0=>(v0.toNat:Int))).bind fun v1=>
 (c_strings_IndexByte k ((⟨#[48,49,50,51,52,53,54,55,56,57,97,98,99,100,101,102]⟩:ByteArray),v1)).bind fun v2=>
 (if 0≤(wrapK .i64 (d.2.2+(1:Int)))then((d.1[(wrapK .i64 (d.2.2+(1:Int))).toNat]?.map fun v0=>(v0.toNat:Int))).bind fun v3=>
 (c_strings_IndexByte k ((⟨#[48,49,50,51,52,53,54,55,56,57,97,98,99,100,101,102]⟩:ByteArray),v3)).bind fun v4=>
 (bif (decide (v2<(0:Int)))then some ((⟨#[]⟩:ByteArray),false)else(bif (decide (v4<(0:Int)))then some ((⟨#[]⟩:ByteArray),false)else(if 0≤(4:Int)then(if(d.2.1.length+([(wrapK .u8 (intBits .or .i64 (wrapK .i64 (v2*2 ^(min (4:Int).toNat (IntKind.bits .i64)))) v4))]:List Int).length)*1≤capBytes then self (d.1,(d.2.1++([(wrapK .u8 (intBits .or .i64 (wrapK .i64 (v2*2 ^(min (4:Int).toNat (IntKind.bits .i64)))) v4))]:List Int)),(wrapK .i64 (d.2.2+(2:Int))))else none)else none)))else none)else none)else some ((ofBytes d.2.1),true))
def impl_UnhexText(k:Nat)(x0:ByteArray):Option (ByteArray×Bool):=
 (if((2:Int):Int)≠0 then(bif (((x0.size:Int).tmod (2:Int)) != (0:Int))then some ((⟨#[]⟩:ByteArray),false)else iter k (impl_UnhexText_l1 k) (x0,([]:List Int),(0:Int)))else none)
theorem impl_UnhexText_run(k:Nat)(x0:ByteArray):c_impl_UnhexText (k+1) (x0)=impl_UnhexText k x0:=by kernel_rfl
def impl_IsEntryName(k:Nat)(x0:ByteArray):Option Bool:=
 (bif (decide ((1:Int)≤(x0.size:Int)))then(bif (decide ((x0.size:Int)≤(12:Int)))then(c_strings_ContainsAny k (x0,(⟨#[0,47]⟩:ByteArray))).bind fun y1=>
 (bif (!y1)then(bif (!(eqS x0 (⟨#[46]⟩:ByteArray)))then some (!(eqS x0 (⟨#[46,46]⟩:ByteArray)))else some false)else some false)else some false)else some false)
theorem impl_IsEntryName_run(k:Nat)(x0:ByteArray):c_impl_IsEntryName (k+1) (x0)=impl_IsEntryName k x0:=by kernel_rfl
def impl_isPlain(k:Nat)(x0:ByteArray):Option Bool:=
 (c_strings_ContainsAny k (x0,(⟨#[32,10]⟩:ByteArray))).bind fun y1=>
 some (!y1)
theorem impl_isPlain_run(k:Nat)(x0:ByteArray):c_impl_isPlain (k+1) (x0)=impl_isPlain k x0:=by kernel_rfl
def impl_isMode(k:Nat)(x0:Int):Option Bool:=
 (bif (decide ((0:Int)≤x0))then some (decide (x0≤(2047:Int)))else some false)
theorem impl_isMode_run(k:Nat)(x0:Int):c_impl_isMode (k+1) (x0)=impl_isMode k x0:=by kernel_rfl
def impl_isItem_l1(k:Nat)(self:_→Option Bool)(d:(Unit×((List ByteArray)×(Unit×(Int×(Int×DArchiveItem)))))):=
 let e0:=d.2.2.2.2
 (bif (decide (e0.1<d.2.2.2.1))then(if 0≤e0.1 then(if e0.1<(d.2.1.length:Int)then(d.2.1[e0.1.toNat]?).bind fun v0=>
 (c_impl_IsEntryName k v0).bind fun v1=>
 (bif (!v1)then some false else(c_impl_isPlain k v0).bind fun v2=>
 (bif (!v2)then some false else self ((),d.2.1,(),d.2.2.2.1,(wrapK .i64 (e0.1+(1:Int))),e0.2)))else none)else none)else(bif (decide ((8:Int)<(d.2.1.length:Int)))then some false else(c_impl_isMode k e0.2.2.2.1).bind fun v3=>
 (bif (!v3)then some false else(c_impl_IsAcl k e0.2.2.2.2.1).bind fun v4=>
 (bif (!v4)then some false else(bif e0.2.1 then some (eqS e0.2.2.2.2.2 (⟨#[]⟩:ByteArray))else(bif ((intBits .and .i64 e0.2.2.2.1 (512:Int))==(0:Int))then some (decide ((e0.2.2.2.2.2.size:Int)≤(256:Int)))else some false))))))
def impl_isItem(k:Nat)(x0:DArchiveItem):Option Bool:=
 (c_impl_SplitAny k (x0.2.1,(⟨#[47]⟩:ByteArray))).bind fun y1=>
 iter k (impl_isItem_l1 k) ((),y1,(),(y1.length:Int),(0:Int),x0)
theorem impl_isItem_run(k:Nat)(x0:DArchiveItem):c_impl_isItem (k+1) (x0)=impl_isItem k x0:=by kernel_rfl
def impl_HexOf_l1(k:Nat)(self:_→Option ByteArray)(d:(ByteArray×((List Int)×DacceptRange))):=
 (bif (decide (d.2.2.2<d.2.2.1))then(if 0≤d.2.2.2 then((d.1[d.2.2.2.toNat]?.map fun v0=>(v0.toNat:Int))).bind fun v1=>
 (if 0≤(4:Int)then(if 0≤(v1.fdiv (2 ^(min (4:Int).toNat (IntKind.bits .u8))))then(((⟨#[48,49,50,51,52,53,54,55,56,57,97,98,99,100,101,102]⟩:ByteArray)[(v1.fdiv (2 ^(min (4:Int).toNat (IntKind.bits .u8)))).toNat]?.map fun v0=>(v0.toNat:Int))).bind fun v2=>
 (if 0≤d.2.2.2 then((d.1[d.2.2.2.toNat]?.map fun v0=>(v0.toNat:Int))).bind fun v3=>
 (if 0≤(intBits .and .u8 v3 (15:Int))then(((⟨#[48,49,50,51,52,53,54,55,56,57,97,98,99,100,101,102]⟩:ByteArray)[(intBits .and .u8 v3 (15:Int)).toNat]?.map fun v0=>(v0.toNat:Int))).bind fun v4=>
 (if(d.2.1.length+([v2,v4]:List Int).length)*1≤capBytes then self (d.1,(d.2.1++([v2,v4]:List Int)),d.2.2.1,(wrapK .i64 (d.2.2.2+(1:Int))))else none)else none)else none)else none)else none)else none)else some (ofBytes d.2.1))
def impl_HexOf(k:Nat)(x0:ByteArray):Option ByteArray:=
 iter k (impl_HexOf_l1 k) (x0,([]:List Int),(x0.size:Int),(0:Int))
theorem impl_HexOf_run(k:Nat)(x0:ByteArray):c_impl_HexOf (k+1) (x0)=impl_HexOf k x0:=by kernel_rfl
def impl_hexOr(k:Nat)(x0:ByteArray):Option ByteArray:=
 (bif (eqS x0 (⟨#[]⟩:ByteArray))then some (⟨#[45]⟩:ByteArray)else(c_impl_HexOf k x0).bind fun y1=>
 some y1)
theorem impl_hexOr_run(k:Nat)(x0:ByteArray):c_impl_hexOr (k+1) (x0)=impl_hexOr k x0:=by kernel_rfl
def impl_FormatItem(k:Nat)(x0:DArchiveItem):Option ByteArray:=
 (c_impl_isItem k x0).bind fun y1=>
 (bif (!y1)then some (⟨#[]⟩:ByteArray)else(if x0.2.1.size+(⟨#[32]⟩:ByteArray).size≤9223372036854775807 then(c_impl_FormatMode k x0.2.2.1).bind fun y2=>
 (if(x0.2.1++(⟨#[32]⟩:ByteArray)).size+y2.size≤9223372036854775807 then(if((x0.2.1++(⟨#[32]⟩:ByteArray))++y2).size+(⟨#[32]⟩:ByteArray).size≤9223372036854775807 then(c_impl_FormatAcl k x0.2.2.2.1).bind fun y3=>
 (if(((x0.2.1++(⟨#[32]⟩:ByteArray))++y2)++(⟨#[32]⟩:ByteArray)).size+y3.size≤9223372036854775807 then(bif x0.1 then(if(⟨#[100,32]⟩:ByteArray).size+((((x0.2.1++(⟨#[32]⟩:ByteArray))++y2)++(⟨#[32]⟩:ByteArray))++y3).size≤9223372036854775807 then some ((⟨#[100,32]⟩:ByteArray)++((((x0.2.1++(⟨#[32]⟩:ByteArray))++y2)++(⟨#[32]⟩:ByteArray))++y3))else none)else(if(⟨#[102,32]⟩:ByteArray).size+((((x0.2.1++(⟨#[32]⟩:ByteArray))++y2)++(⟨#[32]⟩:ByteArray))++y3).size≤9223372036854775807 then(if((⟨#[102,32]⟩:ByteArray)++((((x0.2.1++(⟨#[32]⟩:ByteArray))++y2)++(⟨#[32]⟩:ByteArray))++y3)).size+(⟨#[32]⟩:ByteArray).size≤9223372036854775807 then(c_impl_hexOr k x0.2.2.2.2).bind fun y4=>
 (if(((⟨#[102,32]⟩:ByteArray)++((((x0.2.1++(⟨#[32]⟩:ByteArray))++y2)++(⟨#[32]⟩:ByteArray))++y3))++(⟨#[32]⟩:ByteArray)).size+y4.size≤9223372036854775807 then some ((((⟨#[102,32]⟩:ByteArray)++((((x0.2.1++(⟨#[32]⟩:ByteArray))++y2)++(⟨#[32]⟩:ByteArray))++y3))++(⟨#[32]⟩:ByteArray))++y4)else none)else none)else none))else none)else none)else none)else none))
theorem impl_FormatItem_run(k:Nat)(x0:DArchiveItem):c_impl_FormatItem (k+1) (x0)=impl_FormatItem k x0:=by kernel_rfl
def impl_readItem(k:Nat)(x0:ByteArray):Option (DArchiveItem×Bool):=
 (c_impl_SplitAny k (x0,(⟨#[32]⟩:ByteArray))).bind fun y1=>
 (joinK (R:=(DArchiveItem×Bool)) ((bif ((y1.length:Int) != (4:Int))then(bif ((y1.length:Int) != (5:Int))then((some ((false,ByteArray.empty,(0:Int),([]:List DAclEntry),ByteArray.empty),false)).map .inr)else some (.inl (x0,(),y1,(false,ByteArray.empty,(0:Int),([]:List DAclEntry),ByteArray.empty))))else some (.inl (x0,(),y1,(false,ByteArray.empty,(0:Int),([]:List DAclEntry),ByteArray.empty))))) fun(d2:(ByteArray×(Unit×((List ByteArray)×DArchiveItem))))=>(if 0≤(2:Int)then(if(2:Int)<(d2.2.2.1.length:Int)then(d2.2.2.1[(2:Int).toNat]?).bind fun y3=>
 (c_impl_ParseMode k y3).bind fun y4=>
 (if 0≤(3:Int)then(if(3:Int)<(d2.2.2.1.length:Int)then(d2.2.2.1[(3:Int).toNat]?).bind fun y5=>
 (c_impl_ParseAcl k y5).bind fun y6=>
 (if 0≤(0:Int)then(if(0:Int)<(d2.2.2.1.length:Int)then(d2.2.2.1[(0:Int).toNat]?).bind fun y7=>
 (if 0≤(1:Int)then(if(1:Int)<(d2.2.2.1.length:Int)then(d2.2.2.1[(1:Int).toNat]?).bind fun y8=>
 (joinK (R:=(DArchiveItem×Bool)) ((bif ((d2.2.2.1.length:Int)==(5:Int))then(if 0≤(4:Int)then(if(4:Int)<(d2.2.2.1.length:Int)then(d2.2.2.1[(4:Int).toNat]?).bind fun y10=>
 (bif (!(eqS y10 (⟨#[45]⟩:ByteArray)))then(if 0≤(4:Int)then(if(4:Int)<(d2.2.2.1.length:Int)then(d2.2.2.1[(4:Int).toNat]?).bind fun y11=>
 (c_impl_UnhexText k y11).bind fun y12=>
 some (.inl (d2.1,(),y4.2,y6.2,(),y12.2,((eqS y7 (⟨#[100]⟩:ByteArray)),y8,y4.1,y6.1,y12.1),d2.2.2.2))else none)else none)else some (.inl (d2.1,(),y4.2,y6.2,(),true,((eqS y7 (⟨#[100]⟩:ByteArray)),y8,y4.1,y6.1,ByteArray.empty),d2.2.2.2)))else none)else none)else some (.inl (d2.1,(),y4.2,y6.2,(),true,((eqS y7 (⟨#[100]⟩:ByteArray)),y8,y4.1,y6.1,ByteArray.empty),d2.2.2.2)))) fun(d9:(ByteArray×(Unit×(Bool×(Bool×(Unit×(Bool×(DArchiveItem×DArchiveItem))))))))=>let e0:=d9.2.2.2.2;(bif d9.2.2.1 then(bif d9.2.2.2.1 then(bif e0.2.1 then(c_impl_FormatItem k e0.2.2.1).bind fun y13=>
 some (e0.2.2.1,(eqS y13 d9.1))else some (e0.2.2.1,false))else some (e0.2.2.1,false))else some (e0.2.2.1,false)))else none)else none)else none)else none)else none)else none)else none)else none))
theorem impl_readItem_run(k:Nat)(x0:ByteArray):c_impl_readItem (k+1) (x0)=impl_readItem k x0:=by kernel_rfl
def impl_ReadArchive_l1(k:Nat)(self:_→Option ((List DArchiveItem)×Bool))(d:((List DArchiveItem)×((List ByteArray)×DacceptRange))):=
 (bif (decide (d.2.2.2<d.2.2.1))then(if 0≤d.2.2.2 then(if d.2.2.2<(d.2.1.length:Int)then(d.2.1[d.2.2.2.toNat]?).bind fun v0=>
 (c_impl_readItem k v0).bind fun v1=>
 (bif (!v1.2)then some (([]:List DArchiveItem),false)else(if(d.1.length+([v1.1]:List DArchiveItem).length)*72≤capBytes then self ((d.1++([v1.1]:List DArchiveItem)),d.2.1,d.2.2.1,(wrapK .i64 (d.2.2.2+(1:Int))))else none))else none)else none)else some (d.1,true))
def impl_ReadArchive(k:Nat)(x0:ByteArray):Option ((List DArchiveItem)×Bool):=
 (joinK (R:=((List DArchiveItem)×Bool)) ((bif (!(eqS x0 (⟨#[]⟩:ByteArray)))then(c_strings_HasSuffix k (x0,(⟨#[10]⟩:ByteArray))).bind fun y2=>
 (bif (!y2)then((some (([]:List DArchiveItem),false)).map .inr)else some (.inl x0))else some (.inl x0))) fun(d1:ByteArray)=>(c_impl_SplitLines k d1).bind fun y3=>
 iter k (impl_ReadArchive_l1 k) (([]:List DArchiveItem),y3,(y3.length:Int),(0:Int)))
theorem impl_ReadArchive_run(k:Nat)(x0:ByteArray):c_impl_ReadArchive (k+1) (x0)=impl_ReadArchive k x0:=by kernel_rfl
def laws_eqAclEntry(k:Nat)(x0:DAclEntry)(x1:DAclEntry):Option Bool:=
 (bif (x0.1 != x1.1)then some false else(bif (x0.2.1 != x1.2.1)then some false else(bif (x0.2.2 != x1.2.2)then some false else some true)))
theorem laws_eqAclEntry_run(k:Nat)(x0:DAclEntry)(x1:DAclEntry):c_laws_eqAclEntry (k+1) (x0,x1)=laws_eqAclEntry k x0 x1:=by kernel_rfl
def laws_eqAclEntryS_l1(k:Nat)(self:_→Option Bool)(d:((List DAclEntry)×((List DAclEntry)×Int))):=
 (bif (decide (d.2.2<(d.1.length:Int)))then(if 0≤d.2.2 then(d.1[d.2.2.toNat]?).bind fun v0=>
 (if 0≤d.2.2 then(d.2.1[d.2.2.toNat]?).bind fun v1=>
 (c_laws_eqAclEntry k (v0,v1)).bind fun v2=>
 (bif (!v2)then some false else self (d.1,d.2.1,(wrapK .i64 (d.2.2+(1:Int)))))else none)else none)else some true)
def laws_eqAclEntryS(k:Nat)(x0:(List DAclEntry))(x1:(List DAclEntry)):Option Bool:=
 (bif ((x0.length:Int) != (x1.length:Int))then some false else iter k (laws_eqAclEntryS_l1 k) (x0,x1,(0:Int)))
theorem laws_eqAclEntryS_run(k:Nat)(x0:(List DAclEntry))(x1:(List DAclEntry)):c_laws_eqAclEntryS (k+1) (x0,x1)=laws_eqAclEntryS k x0 x1:=by kernel_rfl
def laws_eqArchiveItem(k:Nat)(x0:DArchiveItem)(x1:DArchiveItem):Option Bool:=
 (bif (x0.1 != x1.1)then some false else(bif (!(eqS x0.2.1 x1.2.1))then some false else(bif (x0.2.2.1 != x1.2.2.1)then some false else(c_laws_eqAclEntryS k (x0.2.2.2.1,x1.2.2.2.1)).bind fun y1=>
 (bif (!y1)then some false else(bif (!(eqS x0.2.2.2.2 x1.2.2.2.2))then some false else some true)))))
theorem laws_eqArchiveItem_run(k:Nat)(x0:DArchiveItem)(x1:DArchiveItem):c_laws_eqArchiveItem (k+1) (x0,x1)=laws_eqArchiveItem k x0 x1:=by kernel_rfl
def laws_eqArchiveItemS_l1(k:Nat)(self:_→Option Bool)(d:((List DArchiveItem)×((List DArchiveItem)×Int))):=
 (bif (decide (d.2.2<(d.1.length:Int)))then(if 0≤d.2.2 then(d.1[d.2.2.toNat]?).bind fun v0=>
 (if 0≤d.2.2 then(d.2.1[d.2.2.toNat]?).bind fun v1=>
 (c_laws_eqArchiveItem k (v0,v1)).bind fun v2=>
 (bif (!v2)then some false else self (d.1,d.2.1,(wrapK .i64 (d.2.2+(1:Int)))))else none)else none)else some true)
def laws_eqArchiveItemS(k:Nat)(x0:(List DArchiveItem))(x1:(List DArchiveItem)):Option Bool:=
 (bif ((x0.length:Int) != (x1.length:Int))then some false else iter k (laws_eqArchiveItemS_l1 k) (x0,x1,(0:Int)))
theorem laws_eqArchiveItemS_run(k:Nat)(x0:(List DArchiveItem))(x1:(List DArchiveItem)):c_laws_eqArchiveItemS (k+1) (x0,x1)=laws_eqArchiveItemS k x0 x1:=by kernel_rfl
def laws_markText_l1(k:Nat)(self:_→Option ByteArray)(d:(Int×ByteArray)):=
 (bif (decide ((0:Int)<d.1))then(if((10:Int):Int)≠0 then(if(ofBytes ([(wrapK .u8 (wrapK .i64 ((48:Int)+(d.1.tmod (10:Int)))))]:List Int)).size+d.2.size≤9223372036854775807 then(if((10:Int):Int)≠0 then self ((wrapK .i64 (d.1.tdiv (10:Int))),((ofBytes ([(wrapK .u8 (wrapK .i64 ((48:Int)+(d.1.tmod (10:Int)))))]:List Int))++d.2))else none)else none)else none)else(if(⟨#[109]⟩:ByteArray).size+d.2.size≤9223372036854775807 then some ((⟨#[109]⟩:ByteArray)++d.2)else none))
def laws_markText(k:Nat)(x0:Int):Option ByteArray:=
 (bif (decide (x0≤(0:Int)))then some (⟨#[109,48]⟩:ByteArray)else iter k (laws_markText_l1 k) (x0,(⟨#[]⟩:ByteArray)))
theorem laws_markText_run(k:Nat)(x0:Int):c_laws_markText (k+1) (x0)=laws_markText k x0:=by kernel_rfl
def laws_markAclEntryS_l1(k:Nat)(self:_→Option (Int×(List DAclEntry)))(d:(Unit×(Int×(Int×(List DAclEntry))))):=
 (bif (decide (d.2.2.1<(d.2.2.2.length:Int)))then(if 0≤d.2.2.1 then(if d.2.2.1<(d.2.2.2.length:Int)then(d.2.2.2[d.2.2.1.toNat]?).bind fun v0=>
 (if 0≤d.2.2.1 then(if d.2.2.1<(((d.2.2.2.set d.2.2.1.toNat (d.2.1,v0.2)).length:Nat):Int)then((d.2.2.2.set d.2.2.1.toNat (d.2.1,v0.2))[d.2.2.1.toNat]?).bind fun v1=>
 (if 0≤d.2.2.1 then(if d.2.2.1<((((d.2.2.2.set d.2.2.1.toNat (d.2.1,v0.2)).set d.2.2.1.toNat (v1.1,(wrapK .i64 (d.2.1+(1:Int))),v1.2.2)).length:Nat):Int)then(((d.2.2.2.set d.2.2.1.toNat (d.2.1,v0.2)).set d.2.2.1.toNat (v1.1,(wrapK .i64 (d.2.1+(1:Int))),v1.2.2))[d.2.2.1.toNat]?).bind fun v2=>
 self ((),(wrapK .i64 ((wrapK .i64 ((wrapK .i64 (d.2.1+(1:Int)))+(1:Int)))+(1:Int))),(wrapK .i64 (d.2.2.1+(1:Int))),(((d.2.2.2.set d.2.2.1.toNat (d.2.1,v0.2)).set d.2.2.1.toNat (v1.1,(wrapK .i64 (d.2.1+(1:Int))),v1.2.2)).set d.2.2.1.toNat (v2.1,v2.2.1,(wrapK .i64 ((wrapK .i64 (d.2.1+(1:Int)))+(1:Int))))))else none)else none)else none)else none)else none)else none)else some (d.2.1,d.2.2.2))
def laws_markAclEntryS(k:Nat)(x0:(List DAclEntry))(x1:Int):Option (Int×(List DAclEntry)):=
 iter k (laws_markAclEntryS_l1 k) ((),x1,(0:Int),x0)
theorem laws_markAclEntryS_run(k:Nat)(x0:(List DAclEntry))(x1:Int):c_laws_markAclEntryS (k+1) (x0,x1)=laws_markAclEntryS k x0 x1:=by kernel_rfl
def laws_markArchiveItemS_l1(k:Nat)(self:_→Option (Int×(List DArchiveItem)))(d:(Unit×(Int×(Int×(List DArchiveItem))))):=
 (bif (decide (d.2.2.1<(d.2.2.2.length:Int)))then(if((3:Int):Int)≠0 then(if 0≤d.2.2.1 then(if d.2.2.1<(d.2.2.2.length:Int)then(d.2.2.2[d.2.2.1.toNat]?).bind fun v0=>
 (c_laws_markText k (wrapK .i64 (d.2.1+(1:Int)))).bind fun v1=>
 (if 0≤d.2.2.1 then(if d.2.2.1<(((d.2.2.2.set d.2.2.1.toNat (((d.2.1.tmod (3:Int))==(0:Int)),v0.2)).length:Nat):Int)then((d.2.2.2.set d.2.2.1.toNat (((d.2.1.tmod (3:Int))==(0:Int)),v0.2))[d.2.2.1.toNat]?).bind fun v2=>
 (if 0≤d.2.2.1 then(if d.2.2.1<((((d.2.2.2.set d.2.2.1.toNat (((d.2.1.tmod (3:Int))==(0:Int)),v0.2)).set d.2.2.1.toNat (v2.1,v1,v2.2.2)).length:Nat):Int)then(((d.2.2.2.set d.2.2.1.toNat (((d.2.1.tmod (3:Int))==(0:Int)),v0.2)).set d.2.2.1.toNat (v2.1,v1,v2.2.2))[d.2.2.1.toNat]?).bind fun v3=>
 (if 0≤d.2.2.1 then(if d.2.2.1<(((((d.2.2.2.set d.2.2.1.toNat (((d.2.1.tmod (3:Int))==(0:Int)),v0.2)).set d.2.2.1.toNat (v2.1,v1,v2.2.2)).set d.2.2.1.toNat (v3.1,v3.2.1,(wrapK .i64 ((wrapK .i64 (d.2.1+(1:Int)))+(1:Int))),v3.2.2.2)).length:Nat):Int)then((((d.2.2.2.set d.2.2.1.toNat (((d.2.1.tmod (3:Int))==(0:Int)),v0.2)).set d.2.2.1.toNat (v2.1,v1,v2.2.2)).set d.2.2.1.toNat (v3.1,v3.2.1,(wrapK .i64 ((wrapK .i64 (d.2.1+(1:Int)))+(1:Int))),v3.2.2.2))[d.2.2.1.toNat]?).bind fun v4=>
 ((((d.2.2.2.set d.2.2.1.toNat (((d.2.1.tmod (3:Int))==(0:Int)),v0.2)).set d.2.2.1.toNat (v2.1,v1,v2.2.2)).set d.2.2.1.toNat (v3.1,v3.2.1,(wrapK .i64 ((wrapK .i64 (d.2.1+(1:Int)))+(1:Int))),v3.2.2.2))[d.2.2.1.toNat]?).bind fun v5=>
 (c_laws_markAclEntryS k (v5.2.2.2.1,(wrapK .i64 ((wrapK .i64 ((wrapK .i64 (d.2.1+(1:Int)))+(1:Int)))+(1:Int))))).bind fun v6=>
 ((((d.2.2.2.set d.2.2.1.toNat (((d.2.1.tmod (3:Int))==(0:Int)),v0.2)).set d.2.2.1.toNat (v2.1,v1,v2.2.2)).set d.2.2.1.toNat (v3.1,v3.2.1,(wrapK .i64 ((wrapK .i64 (d.2.1+(1:Int)))+(1:Int))),v3.2.2.2))[d.2.2.1.toNat]?).bind fun v7=>
 (c_laws_markText k v6.1).bind fun v8=>
 (if 0≤d.2.2.1 then(if d.2.2.1<((((((d.2.2.2.set d.2.2.1.toNat (((d.2.1.tmod (3:Int))==(0:Int)),v0.2)).set d.2.2.1.toNat (v2.1,v1,v2.2.2)).set d.2.2.1.toNat (v3.1,v3.2.1,(wrapK .i64 ((wrapK .i64 (d.2.1+(1:Int)))+(1:Int))),v3.2.2.2)).set d.2.2.1.toNat (v7.1,v7.2.1,v7.2.2.1,v6.2,v7.2.2.2.2)).length:Nat):Int)then(((((d.2.2.2.set d.2.2.1.toNat (((d.2.1.tmod (3:Int))==(0:Int)),v0.2)).set d.2.2.1.toNat (v2.1,v1,v2.2.2)).set d.2.2.1.toNat (v3.1,v3.2.1,(wrapK .i64 ((wrapK .i64 (d.2.1+(1:Int)))+(1:Int))),v3.2.2.2)).set d.2.2.1.toNat (v7.1,v7.2.1,v7.2.2.1,v6.2,v7.2.2.2.2))[d.2.2.1.toNat]?).bind fun v9=>
 self ((),(wrapK .i64 (v6.1+(1:Int))),(wrapK .i64 (d.2.2.1+(1:Int))),(((((d.2.2.2.set d.2.2.1.toNat (((d.2.1.tmod (3:Int))==(0:Int)),v0.2)).set d.2.2.1.toNat (v2.1,v1,v2.2.2)).set d.2.2.1.toNat (v3.1,v3.2.1,(wrapK .i64 ((wrapK .i64 (d.2.1+(1:Int)))+(1:Int))),v3.2.2.2)).set d.2.2.1.toNat (v7.1,v7.2.1,v7.2.2.1,v6.2,v7.2.2.2.2)).set d.2.2.1.toNat (v9.1,v9.2.1,v9.2.2.1,v9.2.2.2.1,v8)))else none)else none)else none)else none)else none)else none)else none)else none)else none)else none)else none)else some (d.2.1,d.2.2.2))
def laws_markArchiveItemS(k:Nat)(x0:(List DArchiveItem))(x1:Int):Option (Int×(List DArchiveItem)):=
 iter k (laws_markArchiveItemS_l1 k) ((),x1,(0:Int),x0)
theorem laws_markArchiveItemS_run(k:Nat)(x0:(List DArchiveItem))(x1:Int):c_laws_markArchiveItemS (k+1) (x0,x1)=laws_markArchiveItemS k x0 x1:=by kernel_rfl
def laws_heldAclEntryS_l1(k:Nat)(self:_→Option Int)(d:((List DAclEntry)×DacceptRange)):=
 (bif (decide (d.2.2<(d.1.length:Int)))then(if 0≤d.2.2 then(d.1[d.2.2.toNat]?).bind fun v0=>
 (bif (v0.1 != d.2.1)then some (-1:Int)else(if 0≤d.2.2 then(d.1[d.2.2.toNat]?).bind fun v1=>
 (bif (v1.2.1 != (wrapK .i64 (d.2.1+(1:Int))))then some (-1:Int)else(if 0≤d.2.2 then(d.1[d.2.2.toNat]?).bind fun v2=>
 (bif (v2.2.2 != (wrapK .i64 ((wrapK .i64 (d.2.1+(1:Int)))+(1:Int))))then some (-1:Int)else self (d.1,(wrapK .i64 ((wrapK .i64 ((wrapK .i64 (d.2.1+(1:Int)))+(1:Int)))+(1:Int))),(wrapK .i64 (d.2.2+(1:Int)))))else none))else none))else none)else some d.2.1)
def laws_heldAclEntryS(k:Nat)(x0:(List DAclEntry))(x1:Int):Option Int:=
 iter k (laws_heldAclEntryS_l1 k) (x0,x1,(0:Int))
theorem laws_heldAclEntryS_run(k:Nat)(x0:(List DAclEntry))(x1:Int):c_laws_heldAclEntryS (k+1) (x0,x1)=laws_heldAclEntryS k x0 x1:=by kernel_rfl
def laws_heldArchiveItemS_l1(k:Nat)(self:_→Option Int)(d:((List DArchiveItem)×DacceptRange)):=
 (bif (decide (d.2.2<(d.1.length:Int)))then(if 0≤d.2.2 then(d.1[d.2.2.toNat]?).bind fun v0=>
 (if((3:Int):Int)≠0 then(bif (v0.1 != ((d.2.1.tmod (3:Int))==(0:Int)))then some (-1:Int)else(if 0≤d.2.2 then(d.1[d.2.2.toNat]?).bind fun v1=>
 (c_laws_markText k (wrapK .i64 (d.2.1+(1:Int)))).bind fun v2=>
 (bif (!(eqS v1.2.1 v2))then some (-1:Int)else(if 0≤d.2.2 then(d.1[d.2.2.toNat]?).bind fun v3=>
 (bif (v3.2.2.1 != (wrapK .i64 ((wrapK .i64 (d.2.1+(1:Int)))+(1:Int))))then some (-1:Int)else(if 0≤d.2.2 then(d.1[d.2.2.toNat]?).bind fun v4=>
 (c_laws_heldAclEntryS k (v4.2.2.2.1,(wrapK .i64 ((wrapK .i64 ((wrapK .i64 (d.2.1+(1:Int)))+(1:Int)))+(1:Int))))).bind fun v5=>
 (bif (decide (v5<(0:Int)))then some (-1:Int)else(if 0≤d.2.2 then(d.1[d.2.2.toNat]?).bind fun v6=>
 (c_laws_markText k v5).bind fun v7=>
 (bif (!(eqS v6.2.2.2.2 v7))then some (-1:Int)else self (d.1,(wrapK .i64 (v5+(1:Int))),(wrapK .i64 (d.2.2+(1:Int)))))else none))else none))else none))else none))else none)else none)else some d.2.1)
def laws_heldArchiveItemS(k:Nat)(x0:(List DArchiveItem))(x1:Int):Option Int:=
 iter k (laws_heldArchiveItemS_l1 k) (x0,x1,(0:Int))
theorem laws_heldArchiveItemS_run(k:Nat)(x0:(List DArchiveItem))(x1:Int):c_laws_heldArchiveItemS (k+1) (x0,x1)=laws_heldArchiveItemS k x0 x1:=by kernel_rfl
def laws_FnExactReadArchive(k:Nat)(x0:ByteArray):Option Bool:=
 (bif (decide ((1048576:Int)<(x0.size:Int)))then some true else(c_spec_ReadArchive k x0).bind fun y1=>
 (c_impl_ReadArchive k x0).bind fun y2=>
 (c_laws_eqArchiveItemS k (y2.1,y1.1)).bind fun y3=>
 (bif (!y3)then some false else(bif (y2.2 != y1.2)then some false else(c_laws_markArchiveItemS k (y2.1,(1:Int))).bind fun y4=>
 (c_laws_heldArchiveItemS k (y4.2,(1:Int))).bind fun y5=>
 (bif (decide (y5<(0:Int)))then some false else(bif (y5 != y4.1)then some false else(c_impl_ReadArchive k x0).bind fun y6=>
 (c_laws_eqArchiveItemS k (y6.1,y1.1)).bind fun y7=>
 (bif (!y7)then some false else(bif (y6.2 != y1.2)then some false else(c_laws_heldArchiveItemS k (y4.2,(1:Int))).bind fun y8=>
 (bif (decide (y8<(0:Int)))then some false else(bif (y8 != y4.1)then some false else some true)))))))))
theorem laws_FnExactReadArchive_run(k:Nat)(x0:ByteArray):c_laws_FnExactReadArchive (k+1) (x0)=laws_FnExactReadArchive k x0:=by kernel_rfl
end
end Go.Proofs.YtmmgfgfkkpeedaaGreatDoor
