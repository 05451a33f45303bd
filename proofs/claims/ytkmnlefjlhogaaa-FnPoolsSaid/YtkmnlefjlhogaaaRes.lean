/- The tables, the residual functions and lemmas of this seat: parts of the proof of the law; conditions: those that each names. -/
import Derived.Test.YtkmnlefjlhogaaaTab
set_option maxRecDepth 100000
set_option maxHeartbeats 0
set_option linter.unusedVariables false
namespace Go.Proofs.Ytkmnlefjlhogaaa
open Go.Eng
noncomputable section
def spec_PadTo_l1(k:Nat)(self:_→Option ByteArray)(d:(Int×(List Int))):=
 (bif (decide ((d.2.length:Int)<d.1))then(if(d.2.length+([(0:Int)]:List Int).length)*1≤capBytes then self (d.1,(d.2++([(0:Int)]:List Int)))else none)else some (ofBytes d.2))
def spec_PadTo(k:Nat)(x0:ByteArray)(x1:Int):Option ByteArray:=
 (bif (decide ((100000:Int)<x1))then some (⟨#[]⟩:ByteArray)else iter k (spec_PadTo_l1 k) (x1,(bytesOf x0)))
theorem spec_PadTo_run(k:Nat)(x0:ByteArray)(x1:Int):c_spec_PadTo (k+1) (x0,x1)=spec_PadTo k x0 x1:=by kernel_rfl
def spec_l01In(k:Nat)(x0:Int)(x1:Int)(x2:Int):Option Bool:=
 (bif (decide (x1≤x0))then some (decide (x0≤x2))else some false)
theorem spec_l01In_run(k:Nat)(x0:Int)(x1:Int)(x2:Int):c_spec_l01In (k+1) (x0,x1,x2)=spec_l01In k x0 x1 x2:=by kernel_rfl
def spec_BlocksNeeded(k:Nat)(x0:Int):Option Int:=
 (bif (decide (x0≤(0:Int)))then some (0:Int)else(if((32:Int):Int)≠0 then some (wrapK .i64 ((wrapK .i64 ((wrapK .i64 (x0-(1:Int))).tdiv (32:Int)))+(1:Int)))else none))
theorem spec_BlocksNeeded_run(k:Nat)(x0:Int):c_spec_BlocksNeeded (k+1) (x0)=spec_BlocksNeeded k x0:=by kernel_rfl
def spec_l02Same_l1(k:Nat)(self:_→Option Bool)(d:((List Int)×Dl01Cur)):=
 (bif (decide (d.2.2.2<d.2.2.1))then(if 0≤d.2.2.2 then(d.2.1[d.2.2.2.toNat]?).bind fun v0=>
 (if 0≤d.2.2.2 then(d.1[d.2.2.2.toNat]?).bind fun v1=>
 (bif (v0 != v1)then some false else self (d.1,d.2.1,d.2.2.1,(wrapK .i64 (d.2.2.2+(1:Int)))))else none)else none)else some true)
def spec_l02Same(k:Nat)(x0:(List Int))(x1:(List Int)):Option Bool:=
 (bif ((x0.length:Int) != (x1.length:Int))then some false else iter k (spec_l02Same_l1 k) (x1,x0,(x0.length:Int),(0:Int)))
theorem spec_l02Same_run(k:Nat)(x0:(List Int))(x1:(List Int)):c_spec_l02Same (k+1) (x0,x1)=spec_l02Same k x0 x1:=by kernel_rfl
def spec_l05Same_l1(k:Nat)(self:_→Option Bool)(d:((List DAclEntry)×((List DAclEntry)×DQuota))):=
 (bif (decide (d.2.2.2<d.2.2.1))then(if 0≤d.2.2.2 then(d.2.1[d.2.2.2.toNat]?).bind fun v0=>
 (if 0≤d.2.2.2 then(d.1[d.2.2.2.toNat]?).bind fun v1=>
 (bif (!((v0.1==v1.1)&&((v0.2.1==v1.2.1)&&(v0.2.2==v1.2.2))))then some false else self (d.1,d.2.1,d.2.2.1,(wrapK .i64 (d.2.2.2+(1:Int)))))else none)else none)else some true)
def spec_l05Same(k:Nat)(x0:(List DAclEntry))(x1:(List DAclEntry)):Option Bool:=
 (bif ((x0.length:Int) != (x1.length:Int))then some false else iter k (spec_l05Same_l1 k) (x1,x0,(x0.length:Int),(0:Int)))
theorem spec_l05Same_run(k:Nat)(x0:(List DAclEntry))(x1:(List DAclEntry)):c_spec_l05Same (k+1) (x0,x1)=spec_l05Same k x0 x1:=by kernel_rfl
def spec_SameInode(k:Nat)(x0:DInode)(x1:DInode):Option Bool:=
 (bif (x0.1 != x1.1)then some false else(bif (x0.2.1 != x1.2.1)then some false else(bif (x0.2.2.1 != x1.2.2.1)then some false else(bif (x0.2.2.2.1 != x1.2.2.2.1)then some false else(bif (x0.2.2.2.2.1 != x1.2.2.2.2.1)then some false else(bif (x0.2.2.2.2.2.1 != x1.2.2.2.2.2.1)then some false else(bif (x0.2.2.2.2.2.2.1 != x1.2.2.2.2.2.2.1)then some false else(c_spec_l02Same k (x0.2.2.2.2.2.2.2.1,x1.2.2.2.2.2.2.2.1)).bind fun y1=>
 (bif y1 then(c_spec_l05Same k (x0.2.2.2.2.2.2.2.2.1,x1.2.2.2.2.2.2.2.2.1)).bind fun y2=>
 (bif y2 then(c_spec_l05Same k (x0.2.2.2.2.2.2.2.2.2,x1.2.2.2.2.2.2.2.2.2)).bind fun y3=>
 some y3 else some false)else some false))))))))
theorem spec_SameInode_run(k:Nat)(x0:DInode)(x1:DInode):c_spec_SameInode (k+1) (x0,x1)=spec_SameInode k x0 x1:=by kernel_rfl
def spec_l06Mode(k:Nat)(x0:Int):Option Bool:=
 (c_spec_l01In k (x0,(0:Int),(2047:Int))).bind fun y1=>
 some y1
theorem spec_l06Mode_run(k:Nat)(x0:Int):c_spec_l06Mode (k+1) (x0)=spec_l06Mode k x0:=by kernel_rfl
def spec_l06User(k:Nat)(x0:Int):Option Bool:=
 (c_spec_l01In k (x0,(0:Int),(3:Int))).bind fun y1=>
 some y1
theorem spec_l06User_run(k:Nat)(x0:Int):c_spec_l06User (k+1) (x0)=spec_l06User k x0:=by kernel_rfl
def spec_l02Has_l1(k:Nat)(self:_→Option Bool)(d:(Int×Dl01Cur)):=
 (bif (decide (d.2.2.2<d.2.2.1))then(if 0≤d.2.2.2 then(d.2.1[d.2.2.2.toNat]?).bind fun v0=>
 (bif (v0==d.1)then some true else self (d.1,d.2.1,d.2.2.1,(wrapK .i64 (d.2.2.2+(1:Int)))))else none)else some false)
def spec_l02Has(k:Nat)(x0:(List Int))(x1:Int):Option Bool:=
 iter k (spec_l02Has_l1 k) (x1,x0,(x0.length:Int),(0:Int))
theorem spec_l02Has_run(k:Nat)(x0:(List Int))(x1:Int):c_spec_l02Has (k+1) (x0,x1)=spec_l02Has k x0 x1:=by kernel_rfl
def spec_l05Entry(k:Nat)(x0:DAclEntry):Option Bool:=
 (c_spec_l01In k (x0.2.2,(0:Int),(7:Int))).bind fun y1=>
 (bif (!y1)then some false else(bif (x0.1==(1:Int))then(bif (x0.1==(1:Int))then(c_spec_l01In k (x0.2.1,(0:Int),(3:Int))).bind fun y2=>
 some y2 else(bif (x0.1==(3:Int))then some (x0.2.1==(0:Int))else some false))else(bif (x0.1==(2:Int))then(c_spec_l01In k (x0.2.1,(0:Int),(3:Int))).bind fun y3=>
 some y3 else(bif (x0.1==(3:Int))then some (x0.2.1==(0:Int))else some false))))
theorem spec_l05Entry_run(k:Nat)(x0:DAclEntry):c_spec_l05Entry (k+1) (x0)=spec_l05Entry k x0:=by kernel_rfl
def spec_IsAcl_l1(k:Nat)(self:_→Option Bool)(d:((List DAclEntry)×((List DAclEntry)×DQuota))):=
 (bif (decide (d.2.2.2<d.2.2.1))then(if 0≤d.2.2.2 then(d.2.1[d.2.2.2.toNat]?).bind fun v0=>
 (c_spec_l05Entry k v0).bind fun v1=>
 (bif (!v1)then some false else(bif (decide ((0:Int)<d.2.2.2))then(if 0≤(wrapK .i64 (d.2.2.2-(1:Int)))then(d.1[(wrapK .i64 (d.2.2.2-(1:Int))).toNat]?).bind fun v2=>
 (bif (decide (v0.1<v2.1))then some false else(if 0≤(wrapK .i64 (d.2.2.2-(1:Int)))then(d.1[(wrapK .i64 (d.2.2.2-(1:Int))).toNat]?).bind fun v3=>
 (bif (v3.1==v0.1)then(if 0≤(wrapK .i64 (d.2.2.2-(1:Int)))then(d.1[(wrapK .i64 (d.2.2.2-(1:Int))).toNat]?).bind fun v4=>
 (bif (decide (v0.2.1≤v4.2.1))then some false else self (d.1,d.2.1,d.2.2.1,(wrapK .i64 (d.2.2.2+(1:Int)))))else none)else self (d.1,d.2.1,d.2.2.1,(wrapK .i64 (d.2.2.2+(1:Int)))))else none))else none)else self (d.1,d.2.1,d.2.2.1,(wrapK .i64 (d.2.2.2+(1:Int))))))else none)else(bif ((d.1.length:Int)==(0:Int))then some true else(bif (decide ((d.1.length:Int)≤(6:Int)))then(if 0≤(wrapK .i64 ((d.1.length:Int)-(1:Int)))then(d.1[(wrapK .i64 ((d.1.length:Int)-(1:Int))).toNat]?).bind fun v5=>
 some (v5.1==(3:Int))else none)else some false)))
def spec_IsAcl(k:Nat)(x0:(List DAclEntry)):Option Bool:=
 iter k (spec_IsAcl_l1 k) (x0,x0,(x0.length:Int),(0:Int))
theorem spec_IsAcl_run(k:Nat)(x0:(List DAclEntry)):c_spec_IsAcl (k+1) (x0)=spec_IsAcl k x0:=by kernel_rfl
def spec_IsInode_l1(k:Nat)(self:_→Option Bool)(d:(Unit×((List Int)×(Int×(Int×DInode))))):=
 let e0:=d.2.2.2.2
 (bif (decide (d.2.2.2.1<d.2.2.1))then(if 0≤d.2.2.2.1 then(d.2.1[d.2.2.2.1.toNat]?).bind fun v0=>
 (c_spec_l01In k (v0,(-1:Int),(999:Int))).bind fun v1=>
 (bif (!v1)then some false else(bif (v0 != (-1:Int))then(if 0≤d.2.2.2.1 then(if d.2.2.2.1≤(e0.2.2.2.2.2.2.2.1.length:Int)then(c_spec_l02Has k (((e0.2.2.2.2.2.2.2.1.take d.2.2.2.1.toNat).drop 0),v0)).bind fun v2=>
 (bif v2 then some false else self ((),d.2.1,d.2.2.1,(wrapK .i64 (d.2.2.2.1+(1:Int))),e0))else none)else none)else self ((),d.2.1,d.2.2.1,(wrapK .i64 (d.2.2.2.1+(1:Int))),e0)))else none)else(joinK (R:=Bool) ((bif (e0.1==(1:Int))then(bif (decide ((0:Int)<(e0.2.2.2.2.2.2.2.2.2.length:Int)))then((some false).map .inr)else(bif ((intBits .and .i64 e0.2.1 (512:Int)) != (0:Int))then((some false).map .inr)else some (.inl ((),e0))))else some (.inl ((),e0)))) fun(v3:(Unit×DInode))=>(c_spec_IsAcl k v3.2.2.2.2.2.2.2.2.2.1).bind fun v4=>
 (bif v4 then(c_spec_IsAcl k v3.2.2.2.2.2.2.2.2.2.2).bind fun v5=>
 some v5 else some false)))
def spec_IsInode(k:Nat)(x0:DInode):Option Bool:=
 (bif (x0.1==(0:Int))then(c_spec_SameInode k (x0,((0:Int),(0:Int),(0:Int),(0:Int),(0:Int),(0:Int),(0:Int),([]:List Int),([]:List DAclEntry),([]:List DAclEntry)))).bind fun y1=>
 some y1 else(joinK (R:=Bool) ((bif (x0.1 != (1:Int))then(bif (x0.1 != (2:Int))then((some false).map .inr)else(c_spec_l06Mode k x0.2.1).bind fun y3=>
 (bif (!y3)then((some false).map .inr)else(c_spec_l06User k x0.2.2.1).bind fun y4=>
 (bif (!y4)then((some false).map .inr)else(c_spec_l06User k x0.2.2.2.1).bind fun y5=>
 (bif (!y5)then((some false).map .inr)else(c_spec_l01In k (x0.2.2.2.2.1,(0:Int),(1000:Int))).bind fun y6=>
 (bif (!y6)then((some false).map .inr)else(c_spec_l01In k (x0.2.2.2.2.2.1,(0:Int),(256:Int))).bind fun y7=>
 (bif (!y7)then((some false).map .inr)else(c_spec_l01In k (x0.2.2.2.2.2.2.1,(0:Int),(1000000000:Int))).bind fun y8=>
 (bif (!y8)then((some false).map .inr)else(c_spec_BlocksNeeded k x0.2.2.2.2.2.1).bind fun y9=>
 (bif ((x0.2.2.2.2.2.2.2.1.length:Int) != y9)then((some false).map .inr)else some (.inl ((),x0))))))))))else(c_spec_l06Mode k x0.2.1).bind fun y10=>
 (bif (!y10)then((some false).map .inr)else(c_spec_l06User k x0.2.2.1).bind fun y11=>
 (bif (!y11)then((some false).map .inr)else(c_spec_l06User k x0.2.2.2.1).bind fun y12=>
 (bif (!y12)then((some false).map .inr)else(c_spec_l01In k (x0.2.2.2.2.1,(0:Int),(1000:Int))).bind fun y13=>
 (bif (!y13)then((some false).map .inr)else(c_spec_l01In k (x0.2.2.2.2.2.1,(0:Int),(256:Int))).bind fun y14=>
 (bif (!y14)then((some false).map .inr)else(c_spec_l01In k (x0.2.2.2.2.2.2.1,(0:Int),(1000000000:Int))).bind fun y15=>
 (bif (!y15)then((some false).map .inr)else(c_spec_BlocksNeeded k x0.2.2.2.2.2.1).bind fun y16=>
 (bif ((x0.2.2.2.2.2.2.2.1.length:Int) != y16)then((some false).map .inr)else some (.inl ((),x0))))))))))) fun(d2:(Unit×DInode))=>iter k (spec_IsInode_l1 k) ((),d2.2.2.2.2.2.2.2.2.1,(d2.2.2.2.2.2.2.2.2.1.length:Int),(0:Int),d2.2)))
theorem spec_IsInode_run(k:Nat)(x0:DInode):c_spec_IsInode (k+1) (x0)=spec_IsInode k x0:=by kernel_rfl
def spec_BlockOwner(k:Nat)(x0:Int):Option Int:=
 (c_spec_l01In k (x0,(0:Int),(55:Int))).bind fun y1=>
 (bif (!y1)then some (-1:Int)else(if((14:Int):Int)≠0 then some (wrapK .i64 (x0.tdiv (14:Int)))else none))
theorem spec_BlockOwner_run(k:Nat)(x0:Int):c_spec_BlockOwner (k+1) (x0)=spec_BlockOwner k x0:=by kernel_rfl
def spec_l08Used_l1(k:Nat)(a0:_→Option ((List Bool)×Bool))(self:_→Option ((List Bool)×Bool))(d:((List Bool)×(Unit×((List DInode)×(Int×(Int×((List Int)×(Int×(Int×DInode))))))))):=
 let e0:=d.2.2.2.2
 (bif (decide (e0.2.2.2.1<e0.2.2.1))then(if 0≤e0.2.2.2.1 then(e0.2.1[e0.2.2.2.1.toNat]?).bind fun v0=>
 (bif (v0==(-1:Int))then self (d.1,(),d.2.2.1,d.2.2.2.1,e0.1,e0.2.1,e0.2.2.1,(wrapK .i64 (e0.2.2.2.1+(1:Int))),e0.2.2.2.2)else(c_spec_BlockOwner k v0).bind fun v1=>
 (bif (v1 != e0.2.2.2.2.2.2.1)then some (([]:List Bool),false)else(if 0≤v0 then(if v0<(d.1.length:Int)then(d.1[v0.toNat]?).bind fun v2=>
 (bif v2 then some (([]:List Bool),false)else(if 0≤v0 then(if v0<(d.1.length:Int)then(d.1[v0.toNat]?).bind fun v3=>
 self ((d.1.set v0.toNat true),(),d.2.2.1,d.2.2.2.1,e0.1,e0.2.1,e0.2.2.1,(wrapK .i64 (e0.2.2.2.1+(1:Int))),e0.2.2.2.2)else none)else none))else none)else none)))else none)else a0 (d.1,d.2.2.1,d.2.2.2.1,(wrapK .i64 (e0.1+(1:Int)))))
def spec_l08Used_l2(k:Nat)(self:_→Option ((List Bool)×Bool))(d:((List Bool)×((List DInode)×DQuota))):=
 (bif (decide (d.2.2.2<d.2.2.1))then(if 0≤d.2.2.2 then(d.2.1[d.2.2.2.toNat]?).bind fun v0=>
 iter k (spec_l08Used_l1 k self) (d.1,(),d.2.1,d.2.2.1,d.2.2.2,v0.2.2.2.2.2.2.2.1,(v0.2.2.2.2.2.2.2.1.length:Int),(0:Int),v0)else none)else some (d.1,true))
def spec_l08Used(k:Nat)(x0:DFS):Option ((List Bool)×Bool):=
 (if 0≤(56:Int)then(if(56:Int)≤(56:Int)then(if(56:Int)*1≤(capBytes:Int)then iter k (spec_l08Used_l2 k) ((List.replicate (56:Int).toNat false),x0.2.2.1,(x0.2.2.1.length:Int),(0:Int))else none)else none)else none)
theorem spec_l08Used_run(k:Nat)(x0:DFS):c_spec_l08Used (k+1) (x0)=spec_l08Used k x0:=by kernel_rfl
def spec_IsZeroes_l1(k:Nat)(self:_→Option Bool)(d:DerrorAddressString):=
 (bif (decide (d.2<(d.1.size:Int)))then(if 0≤d.2 then((d.1[d.2.toNat]?.map fun v0=>(v0.toNat:Int))).bind fun v1=>
 (bif (v1 != (0:Int))then some false else self (d.1,(wrapK .i64 (d.2+(1:Int)))))else none)else some true)
def spec_IsZeroes(k:Nat)(x0:ByteArray):Option Bool:=
 iter k (spec_IsZeroes_l1 k) (x0,(0:Int))
theorem spec_IsZeroes_run(k:Nat)(x0:ByteArray):c_spec_IsZeroes (k+1) (x0)=spec_IsZeroes k x0:=by kernel_rfl
def spec_IsFS_l1(k:Nat)(self:_→Option Bool)(d:(Unit×((List DInode)×(Int×(Int×DFS))))):=
 let e0:=d.2.2.2.2
 (bif (decide (d.2.2.2.1<d.2.2.1))then(if 0≤d.2.2.2.1 then(d.2.1[d.2.2.2.1.toNat]?).bind fun v0=>
 (bif (decide ((0:Int)≤(wrapK .i64 ((v0.2.2.2.2.2.2.2.1.length:Int)-(1:Int)))))then(if 0≤(wrapK .i64 ((v0.2.2.2.2.2.2.2.1.length:Int)-(1:Int)))then(v0.2.2.2.2.2.2.2.1[(wrapK .i64 ((v0.2.2.2.2.2.2.2.1.length:Int)-(1:Int))).toNat]?).bind fun v1=>
 (bif (v1 != (-1:Int))then(if 0≤(wrapK .i64 ((v0.2.2.2.2.2.2.2.1.length:Int)-(1:Int)))then(v0.2.2.2.2.2.2.2.1[(wrapK .i64 ((v0.2.2.2.2.2.2.2.1.length:Int)-(1:Int))).toNat]?).bind fun v2=>
 (if 0≤v2 then(e0.2.2.2[v2.toNat]?).bind fun v3=>
 (if 0≤(wrapK .i64 (v0.2.2.2.2.2.1-(wrapK .i64 ((wrapK .i64 ((v0.2.2.2.2.2.2.2.1.length:Int)-(1:Int)))*(32:Int)))))then(if(wrapK .i64 (v0.2.2.2.2.2.1-(wrapK .i64 ((wrapK .i64 ((v0.2.2.2.2.2.2.2.1.length:Int)-(1:Int)))*(32:Int)))))≤(v3.size:Int)then(c_spec_IsZeroes k (v3.extract ((wrapK .i64 (v0.2.2.2.2.2.1-(wrapK .i64 ((wrapK .i64 ((v0.2.2.2.2.2.2.2.1.length:Int)-(1:Int)))*(32:Int))))).toNat) v3.size)).bind fun v4=>
 (bif (!v4)then some false else self ((),d.2.1,d.2.2.1,(wrapK .i64 (d.2.2.2.1+(1:Int))),e0))else none)else none)else none)else none)else self ((),d.2.1,d.2.2.1,(wrapK .i64 (d.2.2.2.1+(1:Int))),e0))else none)else self ((),d.2.1,d.2.2.1,(wrapK .i64 (d.2.2.2.1+(1:Int))),e0))else none)else some true)
def spec_IsFS_l2(k:Nat)(self:_→Option Bool)(d:(Unit×((List Bool)×((List ByteArray)×(Int×(Int×DFS)))))):=
 let e0:=d.2.2.2.2
 (bif (decide (e0.1<d.2.2.2.1))then(if 0≤e0.1 then(d.2.2.1[e0.1.toNat]?).bind fun v0=>
 (bif ((v0.size:Int) != (32:Int))then some false else(if 0≤e0.1 then(if e0.1<(d.2.1.length:Int)then(d.2.1[e0.1.toNat]?).bind fun v1=>
 (bif (!v1)then(c_spec_IsZeroes k v0).bind fun v2=>
 (bif (!v2)then some false else self ((),d.2.1,d.2.2.1,d.2.2.2.1,(wrapK .i64 (e0.1+(1:Int))),e0.2))else self ((),d.2.1,d.2.2.1,d.2.2.2.1,(wrapK .i64 (e0.1+(1:Int))),e0.2))else none)else none))else none)else iter k (spec_IsFS_l1 k) ((),e0.2.2.2.1,(e0.2.2.2.1.length:Int),(0:Int),e0.2))
def spec_IsFS_l3(k:Nat)(self:_→Option Bool)(d:(Unit×((List DInode)×(Int×(Int×DFS))))):=
 let e0:=d.2.2.2.2
 (bif (decide (d.2.2.2.1<d.2.2.1))then(if 0≤d.2.2.2.1 then(d.2.1[d.2.2.2.1.toNat]?).bind fun v0=>
 (c_spec_IsInode k v0).bind fun v1=>
 (bif (!v1)then some false else self ((),d.2.1,d.2.2.1,(wrapK .i64 (d.2.2.2.1+(1:Int))),e0))else none)else(if 0≤(0:Int)then(e0.2.2.1[(0:Int).toNat]?).bind fun v2=>
 (bif (v2.1 != (2:Int))then some false else(c_spec_l08Used k e0).bind fun v3=>
 (bif (!v3.2)then some false else iter k (spec_IsFS_l2 k) ((),v3.1,e0.2.2.2,(e0.2.2.2.length:Int),(0:Int),e0)))else none))
def spec_IsFS_l4(k:Nat)(self:_→Option Bool)(d:(Unit×((List DQuota)×(Int×(Int×DFS))))):=
 let e0:=d.2.2.2.2
 (bif (decide (d.2.2.2.1<d.2.2.1))then(if 0≤d.2.2.2.1 then(d.2.1[d.2.2.2.1.toNat]?).bind fun v0=>
 (c_spec_l01In k (v0.1,(0:Int),(5:Int))).bind fun v1=>
 (bif (!v1)then some false else(c_spec_l01In k (v0.2,(0:Int),(14:Int))).bind fun v2=>
 (bif (!v2)then some false else self ((),d.2.1,d.2.2.1,(wrapK .i64 (d.2.2.2.1+(1:Int))),e0)))else none)else iter k (spec_IsFS_l3 k) ((),e0.2.2.1,(e0.2.2.1.length:Int),(0:Int),e0))
def spec_IsFS(k:Nat)(x0:DFS):Option Bool:=
 (c_spec_l01In k (x0.1,(0:Int),(1000000000:Int))).bind fun y1=>
 (bif (!y1)then some false else(bif ((x0.2.1.length:Int) != (4:Int))then some false else(bif ((x0.2.2.1.length:Int) != (20:Int))then some false else(bif ((x0.2.2.2.length:Int) != (56:Int))then some false else iter k (spec_IsFS_l4 k) ((),x0.2.1,(x0.2.1.length:Int),(0:Int),x0)))))
theorem spec_IsFS_run(k:Nat)(x0:DFS):c_spec_IsFS (k+1) (x0)=spec_IsFS k x0:=by kernel_rfl
def spec_NewFS_l1(k:Nat)(self:_→Option DFS)(d:(Unit×(Unit×(DFS×DFS)))):=
 (bif (decide ((d.2.2.1.2.2.2.length:Int)<(56:Int)))then(c_spec_PadTo k ((⟨#[]⟩:ByteArray),(32:Int))).bind fun v0=>
 (if(d.2.2.1.2.2.2.length+([v0]:List ByteArray).length)*16≤capBytes then self ((),(),(d.2.2.1.1,d.2.2.1.2.1,d.2.2.1.2.2.1,(d.2.2.1.2.2.2++([v0]:List ByteArray))),d.2.2.2)else none)else(c_spec_IsFS k d.2.2.1).bind fun v1=>
 (bif (!v1)then some ((0:Int),([]:List DQuota),([]:List DInode),([]:List ByteArray))else some d.2.2.1))
def spec_NewFS(k:Nat)(x0:(List DQuota)):Option DFS:=
 (if(([]:List DQuota).length+x0.length)*16≤capBytes then(if 0≤(20:Int)then(if(20:Int)≤(20:Int)then(if(20:Int)*128≤(capBytes:Int)then(if 0≤(0:Int)then(if(0:Int)<(((List.replicate (20:Int).toNat ((0:Int),(0:Int),(0:Int),(0:Int),(0:Int),(0:Int),(0:Int),([]:List Int),([]:List DAclEntry),([]:List DAclEntry))).length:Nat):Int)then((List.replicate (20:Int).toNat ((0:Int),(0:Int),(0:Int),(0:Int),(0:Int),(0:Int),(0:Int),([]:List Int),([]:List DAclEntry),([]:List DAclEntry)))[(0:Int).toNat]?).bind fun y1=>
 iter k (spec_NewFS_l1 k) ((),(),((0:Int),(([]:List DQuota)++x0),((List.replicate (20:Int).toNat ((0:Int),(0:Int),(0:Int),(0:Int),(0:Int),(0:Int),(0:Int),([]:List Int),([]:List DAclEntry),([]:List DAclEntry))).set (0:Int).toNat ((2:Int),(493:Int),(0:Int),(0:Int),(1:Int),(0:Int),(0:Int),([]:List Int),([]:List DAclEntry),([]:List DAclEntry))),([]:List ByteArray)),((0:Int),([]:List DQuota),([]:List DInode),([]:List ByteArray)))else none)else none)else none)else none)else none)else none)
theorem spec_NewFS_run(k:Nat)(x0:(List DQuota)):c_spec_NewFS (k+1) (x0)=spec_NewFS k x0:=by kernel_rfl
def spec_l01Byte(k:Nat)(x0:Dl01Cur):Option (Int×Dl01Cur):=
 (if 0≤(33:Int)then(if 0≤(45:Int)then(bif (decide (x0.2.1<(x0.1.length:Int)))then(if 0≤x0.2.1 then(x0.1[x0.2.1.toNat]?).bind fun y1=>
 some ((intBits .and .i64 (wrapK .i64 ((intBits .and .i64 (intBits .xor .i64 ((wrapK .i64 ((wrapK .i64 (x0.2.2*(6364136223846793005:Int)))+(1442695040888963407:Int))).fdiv (2 ^(min (33:Int).toNat (IntKind.bits .i64)))) ((wrapK .i64 ((wrapK .i64 (x0.2.2*(6364136223846793005:Int)))+(1442695040888963407:Int))).fdiv (2 ^(min (45:Int).toNat (IntKind.bits .i64))))) (255:Int))+(wrapK .i64 y1))) (255:Int)),(x0.1,(wrapK .i64 (x0.2.1+(1:Int))),(wrapK .i64 ((wrapK .i64 (x0.2.2*(6364136223846793005:Int)))+(1442695040888963407:Int)))))else none)else some ((intBits .and .i64 (intBits .xor .i64 ((wrapK .i64 ((wrapK .i64 (x0.2.2*(6364136223846793005:Int)))+(1442695040888963407:Int))).fdiv (2 ^(min (33:Int).toNat (IntKind.bits .i64)))) ((wrapK .i64 ((wrapK .i64 (x0.2.2*(6364136223846793005:Int)))+(1442695040888963407:Int))).fdiv (2 ^(min (45:Int).toNat (IntKind.bits .i64))))) (255:Int)),(x0.1,x0.2.1,(wrapK .i64 ((wrapK .i64 (x0.2.2*(6364136223846793005:Int)))+(1442695040888963407:Int))))))else none)else none)
theorem spec_l01Byte_run(k:Nat)(x0:Dl01Cur):c_spec_l01Byte (k+1) (x0)=spec_l01Byte k x0:=by kernel_rfl
def spec_l01Below(k:Nat)(x0:Dl01Cur)(x1:Int):Option (Int×Dl01Cur):=
 (bif (decide (x1≤(0:Int)))then some ((0:Int),x0)else(bif (decide (x1≤(256:Int)))then(c_spec_l01Byte k x0).bind fun y1=>
 (if(x1:Int)≠0 then some ((y1.1.tmod x1),y1.2)else none)else(c_spec_l01Byte k x0).bind fun y2=>
 (c_spec_l01Byte k y2.2).bind fun y3=>
 (c_spec_l01Byte k y3.2).bind fun y4=>
 (c_spec_l01Byte k y4.2).bind fun y5=>
 (if(x1:Int)≠0 then some (((wrapK .i64 ((wrapK .i64 ((wrapK .i64 ((wrapK .i64 (y2.1*(16777216:Int)))+(wrapK .i64 (y3.1*(65536:Int)))))+(wrapK .i64 (y4.1*(256:Int)))))+y5.1)).tmod x1),y5.2)else none)))
theorem spec_l01Below_run(k:Nat)(x0:Dl01Cur)(x1:Int):c_spec_l01Below (k+1) (x0,x1)=spec_l01Below k x0 x1:=by kernel_rfl
def spec_l01Pick(k:Nat)(x0:Dl01Cur)(x1:(List Int)):Option (Int×Dl01Cur):=
 (c_spec_l01Below k (x0,(x1.length:Int))).bind fun y1=>
 (if 0≤y1.1 then(x1[y1.1.toNat]?).bind fun y2=>
 some (y2,y1.2)else none)
theorem spec_l01Pick_run(k:Nat)(x0:Dl01Cur)(x1:(List Int)):c_spec_l01Pick (k+1) (x0,x1)=spec_l01Pick k x0 x1:=by kernel_rfl
def spec_l08Quotas_l1(k:Nat)(self:_→Option ((List DQuota)×Dl01Cur))(d:(Unit×((List DQuota)×(Int×Dl01Cur)))):=
 (bif (decide (d.2.2.1<(4:Int)))then(c_spec_l01Pick k (d.2.2.2,([(5:Int),(5:Int),(5:Int),(4:Int),(3:Int),(2:Int)]:List Int))).bind fun v0=>
 (c_spec_l01Pick k (v0.2,([(14:Int),(14:Int),(10:Int),(5:Int),(3:Int)]:List Int))).bind fun v1=>
 (if(d.2.1.length+([(v0.1,v1.1)]:List DQuota).length)*16≤capBytes then self ((),(d.2.1++([(v0.1,v1.1)]:List DQuota)),(wrapK .i64 (d.2.2.1+(1:Int))),v1.2)else none)else(if 0≤(0:Int)then(if(0:Int)<(d.2.1.length:Int)then(d.2.1[(0:Int).toNat]?).bind fun v2=>
 some ((d.2.1.set (0:Int).toNat ((5:Int),(14:Int))),d.2.2.2)else none)else none))
def spec_l08Quotas(k:Nat)(x0:Dl01Cur):Option ((List DQuota)×Dl01Cur):=
 iter k (spec_l08Quotas_l1 k) ((),([]:List DQuota),(0:Int),x0)
theorem spec_l08Quotas_run(k:Nat)(x0:Dl01Cur):c_spec_l08Quotas (k+1) (x0)=spec_l08Quotas k x0:=by kernel_rfl
def spec_l01Once(k:Nat)(x0:Dl01Cur)(x1:Int):Option (Bool×Dl01Cur):=
 (c_spec_l01Below k (x0,x1)).bind fun y1=>
 some ((y1.1==(0:Int)),y1.2)
theorem spec_l01Once_run(k:Nat)(x0:Dl01Cur)(x1:Int):c_spec_l01Once (k+1) (x0,x1)=spec_l01Once k x0 x1:=by kernel_rfl
def spec_CutAll_l1(k:Nat)(self:_→Option (List ByteArray))(d:(ByteArray×(Int×(List ByteArray)))):=
 (bif (decide (d.2.1<(d.1.size:Int)))then(if 0≤d.2.1 then(if d.2.1≤(d.1.size:Int)then(if(d.2.2.length+([(d.1.extract 0 d.2.1.toNat)]:List ByteArray).length)*16≤capBytes then(if 0≤d.2.1 then(if d.2.1≤(d.1.size:Int)then self ((d.1.extract d.2.1.toNat d.1.size),d.2.1,(d.2.2++([(d.1.extract 0 d.2.1.toNat)]:List ByteArray)))else none)else none)else none)else none)else none)else(bif (!(eqS d.1 (⟨#[]⟩:ByteArray)))then(if(d.2.2.length+([d.1]:List ByteArray).length)*16≤capBytes then some (d.2.2++([d.1]:List ByteArray))else none)else some d.2.2))
def spec_CutAll(k:Nat)(x0:ByteArray)(x1:Int):Option (List ByteArray):=
 (c_spec_l01In k (x1,(1:Int),(1000:Int))).bind fun y1=>
 (bif (!y1)then some ([]:List ByteArray)else iter k (spec_CutAll_l1 k) (x0,x1,([]:List ByteArray)))
theorem spec_CutAll_run(k:Nat)(x0:ByteArray)(x1:Int):c_spec_CutAll (k+1) (x0,x1)=spec_CutAll k x0 x1:=by kernel_rfl
def spec_l08Blocks_l1(k:Nat)(a0:_→Option Int)(self:_→Option Int)(d:(Int×(Int×((List DInode)×(Int×(Int×Dl01Cur)))))):=
 let e0:=d.2.2.2.2
 (bif (decide (e0.2.2.2<e0.2.2.1))then(if 0≤e0.2.2.2 then(e0.2.1[e0.2.2.2.toNat]?).bind fun v0=>
 (bif (v0 != (-1:Int))then(c_spec_BlockOwner k v0).bind fun v1=>
 (bif (v1==d.1)then self (d.1,(wrapK .i64 (d.2.1+(1:Int))),d.2.2.1,d.2.2.2.1,e0.1,e0.2.1,e0.2.2.1,(wrapK .i64 (e0.2.2.2+(1:Int))))else self (d.1,d.2.1,d.2.2.1,d.2.2.2.1,e0.1,e0.2.1,e0.2.2.1,(wrapK .i64 (e0.2.2.2+(1:Int)))))else self (d.1,d.2.1,d.2.2.1,d.2.2.2.1,e0.1,e0.2.1,e0.2.2.1,(wrapK .i64 (e0.2.2.2+(1:Int)))))else none)else a0 (d.1,d.2.1,d.2.2.1,d.2.2.2.1,(wrapK .i64 (e0.1+(1:Int)))))
def spec_l08Blocks_l2(k:Nat)(self:_→Option Int)(d:(Int×(Int×((List DInode)×DQuota)))):=
 let e0:=d.2.2.2.2
 (bif (decide (e0<d.2.2.2.1))then(if 0≤e0 then(d.2.2.1[e0.toNat]?).bind fun v0=>
 iter k (spec_l08Blocks_l1 k self) (d.1,d.2.1,d.2.2.1,d.2.2.2.1,e0,v0.2.2.2.2.2.2.2.1,(v0.2.2.2.2.2.2.2.1.length:Int),(0:Int))else none)else some d.2.1)
def spec_l08Blocks(k:Nat)(x0:DFS)(x1:Int):Option Int:=
 iter k (spec_l08Blocks_l2 k) (x1,(0:Int),x0.2.2.1,(x0.2.2.1.length:Int),(0:Int))
theorem spec_l08Blocks_run(k:Nat)(x0:DFS)(x1:Int):c_spec_l08Blocks (k+1) (x0,x1)=spec_l08Blocks k x0 x1:=by kernel_rfl
def spec_l08NextBlock_l1(k:Nat)(self:_→Option DQuota)(d:(Int×((List Bool)×Int))):=
 (bif (decide (d.2.2<(wrapK .i64 ((wrapK .i64 (d.1+(1:Int)))*(14:Int)))))then(bif (decide (d.2.2<(d.2.1.length:Int)))then(if 0≤d.2.2 then(if d.2.2<(d.2.1.length:Int)then(d.2.1[d.2.2.toNat]?).bind fun v0=>
 (bif (!v0)then some (d.2.2,(0:Int))else self (d.1,d.2.1,(wrapK .i64 (d.2.2+(1:Int)))))else none)else none)else some ((0:Int),(8:Int)))else some ((0:Int),(8:Int)))
def spec_l08NextBlock(k:Nat)(x0:DFS)(x1:Int):Option DQuota:=
 (c_spec_l08Blocks k (x0,x1)).bind fun y1=>
 (if 0≤x1 then(x0.2.1[x1.toNat]?).bind fun y2=>
 (bif (decide (y2.2≤y1))then some ((0:Int),(7:Int))else(c_spec_l08Used k x0).bind fun y3=>
 iter k (spec_l08NextBlock_l1 k) (x1,y3.1,(wrapK .i64 (x1*(14:Int)))))else none)
theorem spec_l08NextBlock_run(k:Nat)(x0:DFS)(x1:Int):c_spec_l08NextBlock (k+1) (x0,x1)=spec_l08NextBlock k x0 x1:=by kernel_rfl
def spec_l05Copy(k:Nat)(x0:(List DAclEntry)):Option (List DAclEntry):=
 (if(([]:List DAclEntry).length+x0.length)*24≤capBytes then some (([]:List DAclEntry)++x0)else none)
theorem spec_l05Copy_run(k:Nat)(x0:(List DAclEntry)):c_spec_l05Copy (k+1) (x0)=spec_l05Copy k x0:=by kernel_rfl
def spec_l07Copy(k:Nat)(x0:DInode):Option DInode:=
 (if(([]:List Int).length+x0.2.2.2.2.2.2.2.1.length)*8≤capBytes then(c_spec_l05Copy k x0.2.2.2.2.2.2.2.2.1).bind fun y1=>
 (c_spec_l05Copy k x0.2.2.2.2.2.2.2.2.2).bind fun y2=>
 some (x0.1,x0.2.1,x0.2.2.1,x0.2.2.2.1,x0.2.2.2.2.1,x0.2.2.2.2.2.1,x0.2.2.2.2.2.2.1,(([]:List Int)++x0.2.2.2.2.2.2.2.1),y1,y2)else none)
theorem spec_l07Copy_run(k:Nat)(x0:DInode):c_spec_l07Copy (k+1) (x0)=spec_l07Copy k x0:=by kernel_rfl
def spec_l09Text_l1(k:Nat)(self:_→Option ByteArray)(d:(Unit×(Unit×(ByteArray×((List Int)×(Int×(Int×(DInode×DFS)))))))):=
 let e0:=d.2.2.2.2
 (bif (decide (e0.2.1<e0.1))then(if 0≤e0.2.1 then(d.2.2.2.1[e0.2.1.toNat]?).bind fun v0=>
 (bif (v0==(-1:Int))then(c_spec_PadTo k ((⟨#[]⟩:ByteArray),(32:Int))).bind fun v1=>
 (if d.2.2.1.size+v1.size≤9223372036854775807 then self ((),(),(d.2.2.1++v1),d.2.2.2.1,e0.1,(wrapK .i64 (e0.2.1+(1:Int))),e0.2.2.1,e0.2.2.2)else none)else(if 0≤v0 then(e0.2.2.2.2.2.2[v0.toNat]?).bind fun v2=>
 (if d.2.2.1.size+v2.size≤9223372036854775807 then self ((),(),(d.2.2.1++v2),d.2.2.2.1,e0.1,(wrapK .i64 (e0.2.1+(1:Int))),e0.2.2.1,e0.2.2.2)else none)else none))else none)else(bif (decide (e0.2.2.1.2.2.2.2.2.1<(d.2.2.1.size:Int)))then(if 0≤e0.2.2.1.2.2.2.2.2.1 then(if e0.2.2.1.2.2.2.2.2.1≤(d.2.2.1.size:Int)then some (d.2.2.1.extract 0 e0.2.2.1.2.2.2.2.2.1.toNat)else none)else none)else some d.2.2.1))
def spec_l09Text(k:Nat)(x0:DFS)(x1:DInode):Option ByteArray:=
 iter k (spec_l09Text_l1 k) ((),(),(⟨#[]⟩:ByteArray),x1.2.2.2.2.2.2.2.1,(x1.2.2.2.2.2.2.2.1.length:Int),(0:Int),x1,x0)
theorem spec_l09Text_run(k:Nat)(x0:DFS)(x1:DInode):c_spec_l09Text (k+1) (x0,x1)=spec_l09Text k x0 x1:=by kernel_rfl
def spec_PutNumber_l1(k:Nat)(self:_→Option ByteArray)(d:(Int×((List Int)×Int))):=
 (bif (decide ((0:Int)≤d.2.2))then(if((256:Int):Int)≠0 then(if 0≤d.2.2 then(if d.2.2<(d.2.1.length:Int)then(d.2.1[d.2.2.toNat]?).bind fun v0=>
 (if((256:Int):Int)≠0 then self ((wrapK .i64 (d.1.tdiv (256:Int))),(d.2.1.set d.2.2.toNat (wrapK .u8 (d.1.tmod (256:Int)))),(wrapK .i64 (d.2.2-(1:Int))))else none)else none)else none)else none)else some (ofBytes d.2.1))
def spec_PutNumber(k:Nat)(x0:Int)(x1:Int):Option ByteArray:=
 (c_spec_l01In k (x1,(1:Int),(6:Int))).bind fun y1=>
 (bif (!y1)then some (⟨#[]⟩:ByteArray)else(bif (decide (x0<(0:Int)))then some (⟨#[]⟩:ByteArray)else(if 0≤(wrapK .u64 ((8:Int)*(wrapK .u64 x1)))then(bif (decide ((wrapK .i64 ((1:Int)*2 ^(min (wrapK .u64 ((8:Int)*(wrapK .u64 x1))).toNat (IntKind.bits .i64))))≤x0))then some (⟨#[]⟩:ByteArray)else(if 0≤x1 then(if x1≤x1 then(if x1*1≤(capBytes:Int)then iter k (spec_PutNumber_l1 k) (x0,(List.replicate x1.toNat (0:Int)),(wrapK .i64 (x1-(1:Int))))else none)else none)else none))else none)))
theorem spec_PutNumber_run(k:Nat)(x0:Int)(x1:Int):c_spec_PutNumber (k+1) (x0,x1)=spec_PutNumber k x0 x1:=by kernel_rfl
def spec_l08Add_l1(k:Nat)(self:_→Option ((Int×(ByteArray×(Int×(Unit×(Unit×(Unit×(DFS×(DInode×DFS))))))))⊕ DFS))(d:(Int×(ByteArray×(Int×(Unit×(Unit×(Unit×((List ByteArray)×(Int×(Int×(DFS×(DInode×DFS)))))))))))):=
 let e0:=d.2.2.2.2
 let e1:=e0.2.2.2.2
 let e2:=e1.2.2.2.2
 (bif (decide (e1.1<e0.2.2.2.1))then(if 0≤e1.1 then(if e1.1<(e0.2.2.1.length:Int)then(e0.2.2.1[e1.1.toNat]?).bind fun v0=>
 (c_spec_l08NextBlock k (e1.2.2.2,e1.2.2.1.2.2.1)).bind fun v1=>
 (bif (v1.2 != (0:Int))then some (.inl (d.1,d.2.1,d.2.2.1,(),(),(),e1.2.1,e1.2.2.1,e1.2.2.2))else(if(e1.2.2.1.2.2.2.2.2.2.2.1.length+([v1.1]:List Int).length)*8≤capBytes then(c_spec_PadTo k (v0,(32:Int))).bind fun v2=>
 (if 0≤v1.1 then(if v1.1<(e2.2.2.length:Int)then(e2.2.2[v1.1.toNat]?).bind fun v3=>
 (c_spec_l07Copy k (e1.2.2.1.1,e1.2.2.1.2.1,e1.2.2.1.2.2.1,e1.2.2.1.2.2.2.1,e1.2.2.1.2.2.2.2.1,(wrapK .i64 (e1.2.2.1.2.2.2.2.2.1+(v0.size:Int))),e1.2.2.1.2.2.2.2.2.2.1,(e1.2.2.1.2.2.2.2.2.2.2.1++([v1.1]:List Int)),e1.2.2.1.2.2.2.2.2.2.2.2)).bind fun v4=>
 (if 0≤d.2.2.1 then(if d.2.2.1<(e2.2.1.length:Int)then(e2.2.1[d.2.2.1.toNat]?).bind fun v5=>
 self (d.1,d.2.1,d.2.2.1,(),(),(),e0.2.2.1,e0.2.2.2.1,(wrapK .i64 (e1.1+(1:Int))),e1.2.1,(e1.2.2.1.1,e1.2.2.1.2.1,e1.2.2.1.2.2.1,e1.2.2.1.2.2.2.1,e1.2.2.1.2.2.2.2.1,(wrapK .i64 (e1.2.2.1.2.2.2.2.2.1+(v0.size:Int))),e1.2.2.1.2.2.2.2.2.2.1,(e1.2.2.1.2.2.2.2.2.2.2.1++([v1.1]:List Int)),e1.2.2.1.2.2.2.2.2.2.2.2),(e1.2.2.2.1,e2.1,(e2.2.1.set d.2.2.1.toNat v4),(e2.2.2.set v1.1.toNat v2)))else none)else none)else none)else none)else none))else none)else none)else some (.inl (d.1,d.2.1,d.2.2.1,(),(),(),e1.2.1,e1.2.2.1,e1.2.2.2)))
def spec_l08Add_l2(k:Nat)(self:_→Option ((Int×(Unit×(Unit×(Unit×(ByteArray×(DInode×(DFS×DFS)))))))⊕ DFS))(d:(Unit×(Unit×(Unit×(Int×(Int×(DFS×(DInode×DFS)))))))):=
 let e0:=d.2.2.2.2
 (bif (decide (e0.1<d.2.2.2.1))then(if 0≤e0.1 then(if e0.1<(e0.2.2.1.2.2.2.2.2.2.2.1.length:Int)then(e0.2.2.1.2.2.2.2.2.2.2.1[e0.1.toNat]?).bind fun v0=>
 (c_spec_PadTo k ((⟨#[]⟩:ByteArray),(32:Int))).bind fun v1=>
 (if 0≤v0 then(if v0<(e0.2.1.2.2.2.length:Int)then(e0.2.1.2.2.2[v0.toNat]?).bind fun v2=>
 self ((),(),(),d.2.2.2.1,(wrapK .i64 (e0.1+(1:Int))),(e0.2.1.1,e0.2.1.2.1,e0.2.1.2.2.1,(e0.2.1.2.2.2.set v0.toNat v1)),e0.2.2.1,e0.2.2.2)else none)else none)else none)else none)else((some e0.2.1).map .inr))
def spec_l08Add_l3(k:Nat)(self:_→Option DFS)(d:(Int×(Unit×(Unit×(Unit×(ByteArray×((List ByteArray)×(Int×(Int×(DInode×(DFS×DFS))))))))))):=
 let e0:=d.2.2.2.2
 let e1:=e0.2.2.2.2
 (bif (decide (e0.2.2.2.1<e0.2.2.1))then(if 0≤e0.2.2.2.1 then(if e0.2.2.2.1<(e0.2.1.length:Int)then(e0.2.1[e0.2.2.2.1.toNat]?).bind fun v0=>
 (if 0≤e0.2.2.2.1 then(e1.1.2.2.2.2.2.2.2.1[e0.2.2.2.1.toNat]?).bind fun v1=>
 (c_spec_PadTo k (v0,(32:Int))).bind fun v2=>
 (if 0≤v1 then(if v1<(e1.2.1.2.2.2.length:Int)then(e1.2.1.2.2.2[v1.toNat]?).bind fun v3=>
 self (d.1,(),(),(),e0.1,e0.2.1,e0.2.2.1,(wrapK .i64 (e0.2.2.2.1+(1:Int))),e1.1,(e1.2.1.1,e1.2.1.2.1,e1.2.1.2.2.1,(e1.2.1.2.2.2.set v1.toNat v2)),e1.2.2)else none)else none)else none)else none)else none)else(if 0≤d.1 then(if d.1<(e1.2.1.2.2.1.length:Int)then(e1.2.1.2.2.1[d.1.toNat]?).bind fun v4=>
 some (e1.2.1.1,e1.2.1.2.1,(e1.2.1.2.2.1.set d.1.toNat (e1.1.1,e1.1.2.1,e1.1.2.2.1,e1.1.2.2.2.1,e1.1.2.2.2.2.1,(e0.1.size:Int),e1.1.2.2.2.2.2.2)),e1.2.1.2.2.2)else none)else none))
def spec_l08Add_j2(k:Nat)(x0:DFS)(x1:Int)(x2:ByteArray)(x3:Int)(x4:DInode)(x5:ByteArray)(d1:(Int×(ByteArray×(Int×(Unit×(Unit×(Unit×(DFS×(DInode×DFS)))))))))(d17:(Int×(Unit×(Unit×(Unit×(ByteArray×(DInode×(DFS×DFS)))))))):Option DFS:=
 let e0:=d17.2.2.2.2
 (c_spec_CutAll k (e0.1,(32:Int))).bind fun y23=>
 iter k (spec_l08Add_l3 k) (d17.1,(),(),(),e0.1,y23,(y23.length:Int),(0:Int),e0.2.1,e0.2.2.1,e0.2.2.2)
def spec_l08Add_j1(k:Nat)(x0:DFS)(x1:Int)(x2:ByteArray)(x3:Int)(x4:DInode)(x5:ByteArray)(d1:(Int×(ByteArray×(Int×(Unit×(Unit×(Unit×(DFS×(DInode×DFS))))))))):Option DFS:=
 let e0:=d1.2.2.2.2
 let e1:=e0.2.2.2.2
 (c_spec_l07Copy k (e0.2.2.2.1.1,e0.2.2.2.1.2.1,e0.2.2.2.1.2.2.1,e0.2.2.2.1.2.2.2.1,(1:Int),e0.2.2.2.1.2.2.2.2.2)).bind fun y9=>
 (if 0≤d1.2.2.1 then(if d1.2.2.1<(e1.2.2.1.length:Int)then(e1.2.2.1[d1.2.2.1.toNat]?).bind fun y10=>
 (if 0≤d1.1 then(if d1.1<(((e1.2.2.1.set d1.2.2.1.toNat y9).length:Nat):Int)then((e1.2.2.1.set d1.2.2.1.toNat y9)[d1.1.toNat]?).bind fun y11=>
 (c_spec_l09Text k ((e1.1,e1.2.1,(e1.2.2.1.set d1.2.2.1.toNat y9),e1.2.2.2),y11)).bind fun y12=>
 (c_spec_PutNumber k ((wrapK .i64 (d1.2.2.1+(1:Int))),(2:Int))).bind fun y13=>
 (c_spec_PutNumber k ((d1.2.1.size:Int),(1:Int))).bind fun y14=>
 (if y13.size+y14.size≤9223372036854775807 then(if(y13++y14).size+d1.2.1.size≤9223372036854775807 then(c_spec_PadTo k (((y13++y14)++d1.2.1),(16:Int))).bind fun y15=>
 (if y12.size+y15.size≤9223372036854775807 then(c_spec_BlocksNeeded k (((y12++y15).size:Nat):Int)).bind fun y16=>
 (joinK (R:=DFS) ((bif (decide ((y11.2.2.2.2.2.2.2.1.length:Int)<y16))then(c_spec_l08NextBlock k ((e1.1,e1.2.1,(e1.2.2.1.set d1.2.2.1.toNat y9),e1.2.2.2),y11.2.2.1)).bind fun y18=>
 (bif (y18.2 != (0:Int))then(if 0≤d1.2.2.1 then(if d1.2.2.1<(((e1.2.2.1.set d1.2.2.1.toNat y9).length:Nat):Int)then((e1.2.2.1.set d1.2.2.1.toNat y9)[d1.2.2.1.toNat]?).bind fun y19=>
 iter k (spec_l08Add_l2 k) ((),(),(),(e0.2.2.2.1.2.2.2.2.2.2.2.1.length:Int),(0:Int),(e1.1,e1.2.1,((e1.2.2.1.set d1.2.2.1.toNat y9).set d1.2.2.1.toNat ((0:Int),(0:Int),(0:Int),(0:Int),(0:Int),(0:Int),(0:Int),([]:List Int),([]:List DAclEntry),([]:List DAclEntry))),e1.2.2.2),(e0.2.2.2.1.1,e0.2.2.2.1.2.1,e0.2.2.2.1.2.2.1,e0.2.2.2.1.2.2.2.1,(1:Int),e0.2.2.2.1.2.2.2.2.2),e0.2.2.1)else none)else none)else(if y11.2.2.2.2.2.2.2.1.isEmpty=true then(if(([]:List Int).length+([y18.1]:List Int).length)*8≤capBytes then some (.inl (d1.1,(),(),(),(y12++y15),(y11.1,y11.2.1,y11.2.2.1,y11.2.2.2.1,y11.2.2.2.2.1,y11.2.2.2.2.2.1,y11.2.2.2.2.2.2.1,(([]:List Int)++([y18.1]:List Int)),y11.2.2.2.2.2.2.2.2),(e1.1,e1.2.1,(e1.2.2.1.set d1.2.2.1.toNat y9),e1.2.2.2),e0.2.2.1))else none)else none))else some (.inl (d1.1,(),(),(),(y12++y15),y11,(e1.1,e1.2.1,(e1.2.2.1.set d1.2.2.1.toNat y9),e1.2.2.2),e0.2.2.1)))) (spec_l08Add_j2 k x0 x1 x2 x3 x4 x5 d1))else none)else none)else none)else none)else none)else none)else none)
def spec_l08Add(k:Nat)(x0:DFS)(x1:Int)(x2:ByteArray)(x3:Int)(x4:DInode)(x5:ByteArray):Option DFS:=
 (joinK (R:=DFS) ((c_spec_CutAll k (x5,(32:Int))).bind fun y2=>
 iter k (spec_l08Add_l1 k) (x1,x2,x3,(),(),(),y2,(y2.length:Int),(0:Int),((0:Int),([]:List DQuota),([]:List DInode),([]:List ByteArray)),x4,x0)) (spec_l08Add_j1 k x0 x1 x2 x3 x4 x5))
theorem spec_l08Add_run(k:Nat)(x0:DFS)(x1:Int)(x2:ByteArray)(x3:Int)(x4:DInode)(x5:ByteArray):c_spec_l08Add (k+1) (x0,x1,x2,x3,x4,x5)=spec_l08Add k x0 x1 x2 x3 x4 x5:=by kernel_rfl
def spec_l05Draw_l1(k:Nat)(a0:_→Option ((List DAclEntry)×Dl01Cur))(self:_→Option ((List DAclEntry)×Dl01Cur))(d:(Unit×((List DAclEntry)×(Int×(Int×Dl01Cur))))):=
 (bif (decide (d.2.2.2.1<(4:Int)))then(c_spec_l01Once k (d.2.2.2.2,(3:Int))).bind fun v0=>
 (bif v0.1 then(bif (decide ((d.2.1.length:Int)<(4:Int)))then(c_spec_l01Below k (v0.2,(8:Int))).bind fun v1=>
 (if(d.2.1.length+([(d.2.2.1,d.2.2.2.1,v1.1)]:List DAclEntry).length)*24≤capBytes then self ((),(d.2.1++([(d.2.2.1,d.2.2.2.1,v1.1)]:List DAclEntry)),d.2.2.1,(wrapK .i64 (d.2.2.2.1+(1:Int))),v1.2)else none)else self ((),d.2.1,d.2.2.1,(wrapK .i64 (d.2.2.2.1+(1:Int))),v0.2))else self ((),d.2.1,d.2.2.1,(wrapK .i64 (d.2.2.2.1+(1:Int))),v0.2))else a0 ((),d.2.1,(wrapK .i64 (d.2.2.1+(1:Int))),d.2.2.2.2))
def spec_l05Draw_l2(k:Nat)(self:_→Option ((List DAclEntry)×Dl01Cur))(d:(Unit×((List DAclEntry)×(Int×Dl01Cur)))):=
 (bif (decide (d.2.2.1≤(2:Int)))then iter k (spec_l05Draw_l1 k self) ((),d.2.1,d.2.2.1,(1:Int),d.2.2.2)else(c_spec_l01Pick k (d.2.2.2,([(7:Int),(7:Int),(6:Int),(5:Int),(4:Int),(0:Int)]:List Int))).bind fun v0=>
 (if(d.2.1.length+([((3:Int),(0:Int),v0.1)]:List DAclEntry).length)*24≤capBytes then some ((d.2.1++([((3:Int),(0:Int),v0.1)]:List DAclEntry)),v0.2)else none))
def spec_l05Draw(k:Nat)(x0:Dl01Cur):Option ((List DAclEntry)×Dl01Cur):=
 (c_spec_l01Once k (x0,(3:Int))).bind fun y1=>
 (bif y1.1 then some (([]:List DAclEntry),y1.2)else iter k (spec_l05Draw_l2 k) ((),([]:List DAclEntry),(1:Int),y1.2))
theorem spec_l05Draw_run(k:Nat)(x0:Dl01Cur):c_spec_l05Draw (k+1) (x0)=spec_l05Draw k x0:=by kernel_rfl
def spec_l02Bytes_l1(k:Nat)(self:_→Option (ByteArray×Dl01Cur))(d:(Unit×((List Int)×(Int×Dl01Cur)))):=
 (bif (decide ((0:Int)<d.2.2.1))then(c_spec_l01Byte k d.2.2.2).bind fun v0=>
 (c_spec_l01Pick k (v0.2,([(0:Int),(1:Int),(65:Int),(97:Int),(255:Int),v0.1]:List Int))).bind fun v1=>
 (if(d.2.1.length+([(wrapK .u8 v1.1)]:List Int).length)*1≤capBytes then self ((),(d.2.1++([(wrapK .u8 v1.1)]:List Int)),(wrapK .i64 (d.2.2.1-(1:Int))),v1.2)else none)else some ((ofBytes d.2.1),d.2.2.2))
def spec_l02Bytes(k:Nat)(x0:Dl01Cur)(x1:Int):Option (ByteArray×Dl01Cur):=
 (c_spec_l01Below k (x0,(wrapK .i64 (x1+(1:Int))))).bind fun y1=>
 iter k (spec_l02Bytes_l1 k) ((),([]:List Int),y1.1,y1.2)
theorem spec_l02Bytes_run(k:Nat)(x0:Dl01Cur)(x1:Int):c_spec_l02Bytes (k+1) (x0,x1)=spec_l02Bytes k x0 x1:=by kernel_rfl
def spec_l08Draw(k:Nat)(x0:Dl01Cur):Option (DFS×Dl01Cur):=
 (c_spec_l08Quotas k x0).bind fun y1=>
 (c_spec_NewFS k y1.1).bind fun y2=>
 (c_spec_l01Below k (y1.2,(9:Int))).bind fun y3=>
 (c_spec_l01Once k (y3.2,(8:Int))).bind fun y4=>
 (bif y4.1 then some ((y3.1,y2.2),y4.2)else(c_spec_l01Pick k (y4.2,([(493:Int),(511:Int),(511:Int),(1023:Int)]:List Int))).bind fun y5=>
 (if 0≤(0:Int)then(if(0:Int)<(y2.2.2.1.length:Int)then(y2.2.2.1[(0:Int).toNat]?).bind fun y6=>
 (c_spec_l01Below k (y5.2,(3:Int))).bind fun y7=>
 (c_spec_l01Pick k (y7.2,([(493:Int),(511:Int),(448:Int),(504:Int),(1535:Int)]:List Int))).bind fun y8=>
 (c_spec_l01Below k (y8.2,(4:Int))).bind fun y9=>
 (c_spec_l05Draw k y9.2).bind fun y10=>
 (c_spec_l05Draw k y10.2).bind fun y11=>
 (c_spec_l08Add k ((y3.1,y2.2.1,(y2.2.2.1.set (0:Int).toNat (y6.1,y5.1,y6.2.2)),y2.2.2.2),(0:Int),(⟨#[97]⟩:ByteArray),(wrapK .i64 ((wrapK .i64 ((1:Int)+y7.1))*(5:Int))),((2:Int),y8.1,(wrapK .i64 ((1:Int)+y7.1)),y9.1,(0:Int),(0:Int),(0:Int),([]:List Int),y10.1,y11.1),(⟨#[]⟩:ByteArray))).bind fun y12=>
 (c_spec_l01Once k (y11.2,(3:Int))).bind fun y13=>
 (bif y13.1 then some (y12,y13.2)else(c_spec_l01Below k (y13.2,(4:Int))).bind fun y14=>
 (c_spec_l01Pick k (y14.2,([(420:Int),(438:Int),(384:Int),(416:Int),(511:Int)]:List Int))).bind fun y15=>
 (c_spec_l01Below k (y15.2,(4:Int))).bind fun y16=>
 (c_spec_l05Draw k y16.2).bind fun y17=>
 (c_spec_l02Bytes k (y17.2,(40:Int))).bind fun y18=>
 (c_spec_l08Add k (y12,(0:Int),(⟨#[102]⟩:ByteArray),(wrapK .i64 ((wrapK .i64 (y14.1*(5:Int)))+(1:Int))),((1:Int),y15.1,y14.1,y16.1,(0:Int),(0:Int),(0:Int),([]:List Int),y17.1,([]:List DAclEntry)),y18.1)).bind fun y19=>
 (c_spec_l01Once k (y18.2,(3:Int))).bind fun y20=>
 (bif y20.1 then some (y19,y20.2)else(if 0≤(wrapK .i64 ((wrapK .i64 ((1:Int)+y7.1))*(5:Int)))then(if(wrapK .i64 ((wrapK .i64 ((1:Int)+y7.1))*(5:Int)))<(y19.2.2.1.length:Int)then(y19.2.2.1[(wrapK .i64 ((wrapK .i64 ((1:Int)+y7.1))*(5:Int))).toNat]?).bind fun y21=>
 (bif (y21.1 != (2:Int))then some (y19,y20.2)else(c_spec_l01Below k (y20.2,(4:Int))).bind fun y22=>
 (c_spec_l01Pick k (y22.2,([(420:Int),(438:Int),(384:Int)]:List Int))).bind fun y23=>
 (c_spec_l01Below k (y23.2,(4:Int))).bind fun y24=>
 (c_spec_l02Bytes k (y24.2,(9:Int))).bind fun y25=>
 (c_spec_l08Add k (y19,(wrapK .i64 ((wrapK .i64 ((1:Int)+y7.1))*(5:Int))),(⟨#[103]⟩:ByteArray),(wrapK .i64 ((wrapK .i64 (y22.1*(5:Int)))+(2:Int))),((1:Int),y23.1,y22.1,y24.1,(0:Int),(0:Int),(0:Int),([]:List Int),([]:List DAclEntry),([]:List DAclEntry)),y25.1)).bind fun y26=>
 (c_spec_l01Once k (y25.2,(2:Int))).bind fun y27=>
 (bif y27.1 then(c_spec_l01Below k (y27.2,(4:Int))).bind fun y28=>
 (c_spec_l08Add k (y26,(wrapK .i64 ((wrapK .i64 ((1:Int)+y7.1))*(5:Int))),(⟨#[100]⟩:ByteArray),(wrapK .i64 ((wrapK .i64 ((wrapK .i64 ((1:Int)+y7.1))*(5:Int)))+(3:Int))),((2:Int),(493:Int),(wrapK .i64 ((1:Int)+y7.1)),y28.1,(0:Int),(0:Int),(0:Int),([]:List Int),([]:List DAclEntry),([]:List DAclEntry)),(⟨#[]⟩:ByteArray))).bind fun y29=>
 some (y29,y28.2)else some (y26,y27.2)))else none)else none)))else none)else none))
theorem spec_l08Draw_run(k:Nat)(x0:Dl01Cur):c_spec_l08Draw (k+1) (x0)=spec_l08Draw k x0:=by kernel_rfl
def spec_MakeFS_l1(k:Nat)(self:_→Option DFS)(d:((List Int)×(Int×(Int×DFS)))):=
 (bif (decide (d.2.2.1<(d.1.length:Int)))then(bif (decide (d.2.2.1<(4000:Int)))then(if 0≤d.2.2.1 then(d.1[d.2.2.1.toNat]?).bind fun v0=>
 self (d.1,(intBits .and .i64 (wrapK .i64 ((wrapK .i64 ((wrapK .i64 (d.2.1*(73:Int)))+(wrapK .i64 v0)))+(7:Int))) (1073741823:Int)),(wrapK .i64 (d.2.2.1+(1:Int))),d.2.2.2)else none)else(c_spec_l08Draw k (d.1,(0:Int),d.2.1)).bind fun v1=>
 some v1.1)else(c_spec_l08Draw k (d.1,(0:Int),d.2.1)).bind fun v2=>
 some v2.1)
def spec_MakeFS(k:Nat)(x0:(List Int)):Option DFS:=
 iter k (spec_MakeFS_l1 k) (x0,(wrapK .i64 ((1263:Int)+(x0.length:Int))),(0:Int),((0:Int),([]:List DQuota),([]:List DInode),([]:List ByteArray)))
theorem spec_MakeFS_run(k:Nat)(x0:(List Int)):c_spec_MakeFS (k+1) (x0)=spec_MakeFS k x0:=by kernel_rfl
def impl_BlockOwner(k:Nat)(x0:Int):Option Int:=
 (bif (decide (x0<(0:Int)))then some (-1:Int)else(bif (decide ((56:Int)≤x0))then some (-1:Int)else(if((14:Int):Int)≠0 then some (wrapK .i64 (x0.tdiv (14:Int)))else none)))
theorem impl_BlockOwner_run(k:Nat)(x0:Int):c_impl_BlockOwner (k+1) (x0)=impl_BlockOwner k x0:=by kernel_rfl
def impl_IsZeroes_l1(k:Nat)(self:_→Option Bool)(d:(ByteArray×DQuota)):=
 (bif (decide (d.2.2<d.2.1))then(if 0≤d.2.2 then((d.1[d.2.2.toNat]?.map fun v0=>(v0.toNat:Int))).bind fun v1=>
 (bif (v1 != (0:Int))then some false else self (d.1,d.2.1,(wrapK .i64 (d.2.2+(1:Int)))))else none)else some true)
def impl_IsZeroes(k:Nat)(x0:ByteArray):Option Bool:=
 iter k (impl_IsZeroes_l1 k) (x0,(x0.size:Int),(0:Int))
theorem impl_IsZeroes_run(k:Nat)(x0:ByteArray):c_impl_IsZeroes (k+1) (x0)=impl_IsZeroes k x0:=by kernel_rfl
def impl_isUser(k:Nat)(x0:Int):Option Bool:=
 (bif (decide ((0:Int)≤x0))then some (decide (x0<(4:Int)))else some false)
theorem impl_isUser_run(k:Nat)(x0:Int):c_impl_isUser (k+1) (x0)=impl_isUser k x0:=by kernel_rfl
def slices_Equal_int_int_l1(k:Nat)(self:_→Option Bool)(d:((List Int)×Dl01Cur)):=
 (bif (decide (d.2.2.2<d.2.2.1))then(if 0≤d.2.2.2 then(d.1[d.2.2.2.toNat]?).bind fun v0=>
 (if 0≤d.2.2.2 then(d.2.1[d.2.2.2.toNat]?).bind fun v1=>
 (bif (v0 != v1)then some false else self (d.1,d.2.1,d.2.2.1,(wrapK .i64 (d.2.2.2+(1:Int)))))else none)else none)else some true)
def slices_Equal_int_int(k:Nat)(x0:(List Int))(x1:(List Int)):Option Bool:=
 (bif ((x0.length:Int) != (x1.length:Int))then some false else iter k (slices_Equal_int_int_l1 k) (x0,x1,(x0.length:Int),(0:Int)))
theorem slices_Equal_int_int_run(k:Nat)(x0:(List Int))(x1:(List Int)):c_slices_Equal_int_int (k+1) (x0,x1)=slices_Equal_int_int k x0 x1:=by kernel_rfl
def slices_Equal_impl_AclEntry_impl_AclEntry_l1(k:Nat)(self:_→Option Bool)(d:((List DAclEntry)×((List DAclEntry)×DQuota))):=
 (bif (decide (d.2.2.2<d.2.2.1))then(if 0≤d.2.2.2 then(d.1[d.2.2.2.toNat]?).bind fun v0=>
 (if 0≤d.2.2.2 then(d.2.1[d.2.2.2.toNat]?).bind fun v1=>
 (bif (!((v0.1==v1.1)&&((v0.2.1==v1.2.1)&&(v0.2.2==v1.2.2))))then some false else self (d.1,d.2.1,d.2.2.1,(wrapK .i64 (d.2.2.2+(1:Int)))))else none)else none)else some true)
def slices_Equal_impl_AclEntry_impl_AclEntry(k:Nat)(x0:(List DAclEntry))(x1:(List DAclEntry)):Option Bool:=
 (bif ((x0.length:Int) != (x1.length:Int))then some false else iter k (slices_Equal_impl_AclEntry_impl_AclEntry_l1 k) (x0,x1,(x0.length:Int),(0:Int)))
theorem slices_Equal_impl_AclEntry_impl_AclEntry_run(k:Nat)(x0:(List DAclEntry))(x1:(List DAclEntry)):c_slices_Equal_impl_AclEntry_impl_AclEntry (k+1) (x0,x1)=slices_Equal_impl_AclEntry_impl_AclEntry k x0 x1:=by kernel_rfl
def impl_SameInode(k:Nat)(x0:DInode)(x1:DInode):Option Bool:=
 (bif (x0.1==x1.1)then(bif (x0.2.1==x1.2.1)then(bif (x0.2.2.1==x1.2.2.1)then(bif (x0.2.2.2.1==x1.2.2.2.1)then(bif (x0.2.2.2.2.1==x1.2.2.2.2.1)then(bif (x0.2.2.2.2.2.1==x1.2.2.2.2.2.1)then(bif (x0.2.2.2.2.2.2.1==x1.2.2.2.2.2.2.1)then(c_slices_Equal_int_int k (x0.2.2.2.2.2.2.2.1,x1.2.2.2.2.2.2.2.1)).bind fun y1=>
 (bif y1 then(c_slices_Equal_impl_AclEntry_impl_AclEntry k (x0.2.2.2.2.2.2.2.2.1,x1.2.2.2.2.2.2.2.2.1)).bind fun y2=>
 (bif y2 then(c_slices_Equal_impl_AclEntry_impl_AclEntry k (x0.2.2.2.2.2.2.2.2.2,x1.2.2.2.2.2.2.2.2.2)).bind fun y3=>
 some y3 else some false)else some false)else some false)else some false)else some false)else some false)else some false)else some false)else some false)
theorem impl_SameInode_run(k:Nat)(x0:DInode)(x1:DInode):c_impl_SameInode (k+1) (x0,x1)=impl_SameInode k x0 x1:=by kernel_rfl
def impl_isMode(k:Nat)(x0:Int):Option Bool:=
 (bif (decide ((0:Int)≤x0))then some (decide (x0≤(2047:Int)))else some false)
theorem impl_isMode_run(k:Nat)(x0:Int):c_impl_isMode (k+1) (x0)=impl_isMode k x0:=by kernel_rfl
def impl_BlocksNeeded(k:Nat)(x0:Int):Option Int:=
 (bif (decide (x0≤(0:Int)))then some (0:Int)else(if((32:Int):Int)≠0 then some (wrapK .i64 ((wrapK .i64 ((wrapK .i64 (x0-(1:Int))).tdiv (32:Int)))+(1:Int)))else none))
theorem impl_BlocksNeeded_run(k:Nat)(x0:Int):c_impl_BlocksNeeded (k+1) (x0)=impl_BlocksNeeded k x0:=by kernel_rfl
def cmp_Or_int_l1(k:Nat)(self:_→Option Int)(d:(Int×Dl01Cur)):=
 (bif (decide (d.2.2.2<d.2.2.1))then(if 0≤d.2.2.2 then(d.2.1[d.2.2.2.toNat]?).bind fun v0=>
 (bif (v0 != d.1)then some v0 else self (d.1,d.2.1,d.2.2.1,(wrapK .i64 (d.2.2.2+(1:Int)))))else none)else some d.1)
def cmp_Or_int(k:Nat)(x0:(List Int)):Option Int:=
 iter k (cmp_Or_int_l1 k) ((0:Int),x0,(x0.length:Int),(0:Int))
theorem cmp_Or_int_run(k:Nat)(x0:(List Int)):c_cmp_Or_int (k+1) (x0)=cmp_Or_int k x0:=by kernel_rfl
def cmp_isNaN_int(k:Nat)(x0:Int):Option Bool:=
 some (x0 != x0)
theorem cmp_isNaN_int_run(k:Nat)(x0:Int):c_cmp_isNaN_int (k+1) (x0)=cmp_isNaN_int k x0:=by kernel_rfl
def cmp_Compare_int(k:Nat)(x0:Int)(x1:Int):Option Int:=
 (c_cmp_isNaN_int k x0).bind fun y1=>
 (c_cmp_isNaN_int k x1).bind fun y2=>
 (bif y1 then(bif y2 then some (0:Int)else some (-1:Int))else(bif y2 then some (1:Int)else(bif (decide (x0<x1))then some (-1:Int)else(bif (decide (x1<x0))then some (1:Int)else some (0:Int)))))
theorem cmp_Compare_int_run(k:Nat)(x0:Int)(x1:Int):c_cmp_Compare_int (k+1) (x0,x1)=cmp_Compare_int k x0 x1:=by kernel_rfl
def impl_IsAcl_l1(k:Nat)(self:_→Option Bool)(d:((List DAclEntry)×((List DAclEntry)×DQuota))):=
 (bif (decide (d.2.2.2<d.2.2.1))then(if 0≤d.2.2.2 then(d.2.1[d.2.2.2.toNat]?).bind fun v0=>
 (bif (decide (v0.2.2<(0:Int)))then some false else(bif (decide ((7:Int)<v0.2.2))then some false else(joinK (R:=Bool) ((bif (v0.1==(1:Int))then(bif (v0.1==(1:Int))then(c_impl_isUser k v0.2.1).bind fun v1=>
 (bif (!v1)then((some false).map .inr)else some (.inl (d.1,d.2.2.2,(),d.2.1,d.2.2.1,d.2.2.2,v0)))else(bif (v0.1==(3:Int))then(bif (v0.2.1 != (0:Int))then((some false).map .inr)else some (.inl (d.1,d.2.2.2,(),d.2.1,d.2.2.1,d.2.2.2,v0)))else((some false).map .inr)))else(bif (v0.1==(2:Int))then(c_impl_isUser k v0.2.1).bind fun v2=>
 (bif (!v2)then((some false).map .inr)else some (.inl (d.1,d.2.2.2,(),d.2.1,d.2.2.1,d.2.2.2,v0)))else(bif (v0.1==(3:Int))then(bif (v0.2.1 != (0:Int))then((some false).map .inr)else some (.inl (d.1,d.2.2.2,(),d.2.1,d.2.2.1,d.2.2.2,v0)))else((some false).map .inr))))) fun(v3:((List DAclEntry)×(Int×(Unit×((List DAclEntry)×(Int×(Int×DAclEntry)))))))=>let e0:=v3.2.2.2.2;(bif (decide ((0:Int)<v3.2.1))then(if 0≤(wrapK .i64 (v3.2.1-(1:Int)))then(v3.1[(wrapK .i64 (v3.2.1-(1:Int))).toNat]?).bind fun v4=>
 (c_cmp_Compare_int k (v4.1,e0.2.2.1)).bind fun v5=>
 (if 0≤(wrapK .i64 (v3.2.1-(1:Int)))then(v3.1[(wrapK .i64 (v3.2.1-(1:Int))).toNat]?).bind fun v6=>
 (c_cmp_Compare_int k (v6.2.1,e0.2.2.2.1)).bind fun v7=>
 (c_cmp_Or_int k ([v5,v7]:List Int)).bind fun v8=>
 (bif (decide ((0:Int)≤v8))then some false else self (v3.1,v3.2.2.2.1,e0.1,(wrapK .i64 (e0.2.1+(1:Int)))))else none)else none)else self (v3.1,v3.2.2.2.1,e0.1,(wrapK .i64 (e0.2.1+(1:Int))))))))else none)else(bif ((d.1.length:Int)==(0:Int))then some true else(if 0≤(wrapK .i64 ((d.1.length:Int)-(1:Int)))then(d.1[(wrapK .i64 ((d.1.length:Int)-(1:Int))).toNat]?).bind fun v9=>
 some (v9.1==(3:Int))else none)))
def impl_IsAcl(k:Nat)(x0:(List DAclEntry)):Option Bool:=
 (bif (decide ((6:Int)<(x0.length:Int)))then some false else iter k (impl_IsAcl_l1 k) (x0,x0,(x0.length:Int),(0:Int)))
theorem impl_IsAcl_run(k:Nat)(x0:(List DAclEntry)):c_impl_IsAcl (k+1) (x0)=impl_IsAcl k x0:=by kernel_rfl
def slices_Index_int_int_l1(k:Nat)(self:_→Option Int)(d:((List Int)×DAclEntry)):=
 (bif (decide (d.2.2.2<d.2.2.1))then(if 0≤d.2.2.2 then(d.1[d.2.2.2.toNat]?).bind fun v0=>
 (bif (d.2.1==v0)then some d.2.2.2 else self (d.1,d.2.1,d.2.2.1,(wrapK .i64 (d.2.2.2+(1:Int)))))else none)else some (-1:Int))
def slices_Index_int_int(k:Nat)(x0:(List Int))(x1:Int):Option Int:=
 iter k (slices_Index_int_int_l1 k) (x0,x1,(x0.length:Int),(0:Int))
theorem slices_Index_int_int_run(k:Nat)(x0:(List Int))(x1:Int):c_slices_Index_int_int (k+1) (x0,x1)=slices_Index_int_int k x0 x1:=by kernel_rfl
def slices_Contains_int_int(k:Nat)(x0:(List Int))(x1:Int):Option Bool:=
 (c_slices_Index_int_int k (x0,x1)).bind fun y1=>
 some (decide ((0:Int)≤y1))
theorem slices_Contains_int_int_run(k:Nat)(x0:(List Int))(x1:Int):c_slices_Contains_int_int (k+1) (x0,x1)=slices_Contains_int_int k x0 x1:=by kernel_rfl
def impl_IsInode_l1(k:Nat)(self:_→Option Bool)(d:(Unit×((List Int)×(Int×(Int×DInode))))):=
 let e0:=d.2.2.2.2
 (bif (decide (d.2.2.2.1<d.2.2.1))then(if 0≤d.2.2.2.1 then(d.2.1[d.2.2.2.1.toNat]?).bind fun v0=>
 (bif (v0 != (-1:Int))then(bif (decide (v0<(0:Int)))then some false else(bif (decide ((999:Int)<v0))then some false else(if 0≤d.2.2.2.1 then(if d.2.2.2.1≤(e0.2.2.2.2.2.2.2.1.length:Int)then(c_slices_Contains_int_int k (((e0.2.2.2.2.2.2.2.1.take d.2.2.2.1.toNat).drop 0),v0)).bind fun v1=>
 (bif v1 then some false else self ((),d.2.1,d.2.2.1,(wrapK .i64 (d.2.2.2.1+(1:Int))),e0))else none)else none)))else self ((),d.2.1,d.2.2.1,(wrapK .i64 (d.2.2.2.1+(1:Int))),e0))else none)else(bif (e0.1==(2:Int))then some true else(bif ((e0.2.2.2.2.2.2.2.2.2.length:Int)==(0:Int))then some ((intBits .and .i64 e0.2.1 (512:Int))==(0:Int))else some false)))
def impl_IsInode(k:Nat)(x0:DInode):Option Bool:=
 (joinK (R:=Bool) ((bif (x0.1==(0:Int))then(c_impl_SameInode k (x0,((0:Int),(0:Int),(0:Int),(0:Int),(0:Int),(0:Int),(0:Int),([]:List Int),([]:List DAclEntry),([]:List DAclEntry)))).bind fun y2=>
 ((some y2).map .inr)else(bif (x0.1==(1:Int))then(bif (x0.1==(1:Int))then some (.inl ((),x0))else((some false).map .inr))else(bif (x0.1==(2:Int))then some (.inl ((),x0))else((some false).map .inr))))) fun(d1:(Unit×DInode))=>let e0:=d1.2.2.2.2;let e1:=e0.2.2.2.2;(c_impl_isMode k d1.2.2.1).bind fun y3=>
 (bif (!y3)then some false else(c_impl_isUser k d1.2.2.2.1).bind fun y4=>
 (bif (!y4)then some false else(c_impl_isUser k e0.1).bind fun y5=>
 (bif (!y5)then some false else(bif (decide (e0.2.1<(0:Int)))then some false else(bif (decide ((1000:Int)<e0.2.1))then some false else(bif (decide (e0.2.2.1<(0:Int)))then some false else(bif (decide ((256:Int)<e0.2.2.1))then some false else(bif (decide (e0.2.2.2.1<(0:Int)))then some false else(bif (decide ((1000000000:Int)<e0.2.2.2.1))then some false else(c_impl_BlocksNeeded k e0.2.2.1).bind fun y6=>
 (bif ((e1.1.length:Int) != y6)then some false else(c_impl_IsAcl k e1.2.1).bind fun y7=>
 (bif (!y7)then some false else(c_impl_IsAcl k e1.2.2).bind fun y8=>
 (bif (!y8)then some false else iter k (impl_IsInode_l1 k) ((),e1.1,(e1.1.length:Int),(0:Int),d1.2))))))))))))))
theorem impl_IsInode_run(k:Nat)(x0:DInode):c_impl_IsInode (k+1) (x0)=impl_IsInode k x0:=by kernel_rfl
def impl_IsFS_l1(k:Nat)(a0:_→Option Bool)(self:_→Option Bool)(d:(Unit×(Unit×(Unit×((List DInode)×(Int×(Int×((List Int)×(Int×(Int×(DInode×((List Bool)×DFS)))))))))))):=
 let e0:=d.2.2.2.2
 let e1:=e0.2.2.2.2
 (bif (decide (e1.1<e0.2.2.2.1))then(if 0≤e1.1 then(e0.2.2.1[e1.1.toNat]?).bind fun v0=>
 (bif (v0==(-1:Int))then self ((),(),(),d.2.2.2.1,e0.1,e0.2.1,e0.2.2.1,e0.2.2.2.1,(wrapK .i64 (e1.1+(1:Int))),e1.2.1,e1.2.2.1,e1.2.2.2)else(c_impl_BlockOwner k v0).bind fun v1=>
 (bif (v1 != e1.2.1.2.2.1)then some false else(if 0≤v0 then(if v0<(56:Int)then(e1.2.2.1[v0.toNat]?).bind fun v2=>
 (bif v2 then some false else(if 0≤v0 then(if v0<(56:Int)then(e1.2.2.1[v0.toNat]?).bind fun v3=>
 (bif (decide ((wrapK .i64 (e1.2.1.2.2.2.2.2.1-(wrapK .i64 (e1.1*(32:Int)))))<(32:Int)))then(if 0≤v0 then(e1.2.2.2.2.2.2[v0.toNat]?).bind fun v4=>
 (if 0≤(wrapK .i64 (e1.2.1.2.2.2.2.2.1-(wrapK .i64 (e1.1*(32:Int)))))then(if(wrapK .i64 (e1.2.1.2.2.2.2.2.1-(wrapK .i64 (e1.1*(32:Int)))))≤(v4.size:Int)then(c_impl_IsZeroes k (v4.extract ((wrapK .i64 (e1.2.1.2.2.2.2.2.1-(wrapK .i64 (e1.1*(32:Int))))).toNat) v4.size)).bind fun v5=>
 (bif (!v5)then some false else self ((),(),(),d.2.2.2.1,e0.1,e0.2.1,e0.2.2.1,e0.2.2.2.1,(wrapK .i64 (e1.1+(1:Int))),e1.2.1,(e1.2.2.1.set v0.toNat true),e1.2.2.2))else none)else none)else none)else self ((),(),(),d.2.2.2.1,e0.1,e0.2.1,e0.2.2.1,e0.2.2.2.1,(wrapK .i64 (e1.1+(1:Int))),e1.2.1,(e1.2.2.1.set v0.toNat true),e1.2.2.2))else none)else none))else none)else none)))else none)else a0 ((),(),d.2.2.2.1,e0.1,(wrapK .i64 (e0.2.1+(1:Int))),e1.2.2.1,e1.2.2.2))
def impl_IsFS_l2(k:Nat)(self:_→Option Bool)(d:(Unit×(Unit×((List ByteArray)×(Int×(Int×((List Bool)×DFS))))))):=
 let e0:=d.2.2.2.2
 (bif (decide (e0.1<d.2.2.2.1))then(if 0≤e0.1 then(d.2.2.1[e0.1.toNat]?).bind fun v0=>
 (if 0≤e0.1 then(if e0.1<(56:Int)then(e0.2.1[e0.1.toNat]?).bind fun v1=>
 (bif (!v1)then(c_impl_IsZeroes k v0).bind fun v2=>
 (bif (!v2)then some false else self ((),(),d.2.2.1,d.2.2.2.1,(wrapK .i64 (e0.1+(1:Int))),e0.2.1,e0.2.2))else self ((),(),d.2.2.1,d.2.2.2.1,(wrapK .i64 (e0.1+(1:Int))),e0.2.1,e0.2.2))else none)else none)else none)else(if 0≤(0:Int)then(e0.2.2.2.2.1[(0:Int).toNat]?).bind fun v3=>
 some (v3.1==(2:Int))else none))
def impl_IsFS_l3(k:Nat)(self:_→Option Bool)(d:(Unit×(Unit×((List DInode)×(Int×(Int×((List Bool)×DFS))))))):=
 let e0:=d.2.2.2.2
 (bif (decide (e0.1<d.2.2.2.1))then(if 0≤e0.1 then(d.2.2.1[e0.1.toNat]?).bind fun v0=>
 (c_impl_IsInode k v0).bind fun v1=>
 (bif (!v1)then some false else iter k (impl_IsFS_l1 k self) ((),(),(),d.2.2.1,d.2.2.2.1,e0.1,v0.2.2.2.2.2.2.2.1,(v0.2.2.2.2.2.2.2.1.length:Int),(0:Int),v0,e0.2.1,e0.2.2))else none)else iter k (impl_IsFS_l2 k) ((),(),e0.2.2.2.2.2,(e0.2.2.2.2.2.length:Int),(0:Int),e0.2.1,e0.2.2))
def impl_IsFS_l4(k:Nat)(self:_→Option Bool)(d:(Unit×((List ByteArray)×(Int×(Int×DFS))))):=
 let e0:=d.2.2.2.2
 (bif (decide (d.2.2.2.1<d.2.2.1))then(if 0≤d.2.2.2.1 then(d.2.1[d.2.2.2.1.toNat]?).bind fun v0=>
 (bif ((v0.size:Int) != (32:Int))then some false else self ((),d.2.1,d.2.2.1,(wrapK .i64 (d.2.2.2.1+(1:Int))),e0))else none)else iter k (impl_IsFS_l3 k) ((),(),e0.2.2.1,(e0.2.2.1.length:Int),(0:Int),(List.replicate 56 false),e0))
def impl_IsFS_l5(k:Nat)(self:_→Option Bool)(d:(Unit×((List DQuota)×(Int×(Int×DFS))))):=
 let e0:=d.2.2.2.2
 (bif (decide (d.2.2.2.1<d.2.2.1))then(if 0≤d.2.2.2.1 then(d.2.1[d.2.2.2.1.toNat]?).bind fun v0=>
 (bif (decide (v0.1<(0:Int)))then some false else(bif (decide ((5:Int)<v0.1))then some false else(bif (decide (v0.2<(0:Int)))then some false else(bif (decide ((14:Int)<v0.2))then some false else self ((),d.2.1,d.2.2.1,(wrapK .i64 (d.2.2.2.1+(1:Int))),e0)))))else none)else iter k (impl_IsFS_l4 k) ((),e0.2.2.2,(e0.2.2.2.length:Int),(0:Int),e0))
def impl_IsFS(k:Nat)(x0:DFS):Option Bool:=
 (bif (decide (x0.1<(0:Int)))then some false else(bif (decide ((1000000000:Int)<x0.1))then some false else(bif ((x0.2.1.length:Int) != (4:Int))then some false else(bif ((x0.2.2.1.length:Int) != (20:Int))then some false else(bif ((x0.2.2.2.length:Int) != (56:Int))then some false else iter k (impl_IsFS_l5 k) ((),x0.2.1,(x0.2.1.length:Int),(0:Int),x0))))))
theorem impl_IsFS_run(k:Nat)(x0:DFS):c_impl_IsFS (k+1) (x0)=impl_IsFS k x0:=by kernel_rfl
def impl_FS_inodes_l1(k:Nat)(self:_→Option Int)(d:(Int×((List DInode)×DQuota))):=
 (bif (decide (d.2.2.2<d.2.2.1))then(if 0≤d.2.2.2 then(d.2.1[d.2.2.2.toNat]?).bind fun v0=>
 (bif (v0.1 != (0:Int))then self ((wrapK .i64 (d.1+(1:Int))),d.2.1,d.2.2.1,(wrapK .i64 (d.2.2.2+(1:Int))))else self (d.1,d.2.1,d.2.2.1,(wrapK .i64 (d.2.2.2+(1:Int)))))else none)else some d.1)
def impl_FS_inodes(k:Nat)(x0:(Option DFS))(x1:Int):Option Int:=
 (x0).bind fun y1=>
 (if 0≤(wrapK .i64 ((wrapK .i64 (x1+(1:Int)))*(5:Int)))then(if(wrapK .i64 ((wrapK .i64 (x1+(1:Int)))*(5:Int)))≤(y1.2.2.1.length:Int)then(if 0≤(wrapK .i64 (x1*(5:Int)))then(if(wrapK .i64 (x1*(5:Int)))≤(((wrapK .i64 ((wrapK .i64 (x1+(1:Int)))*(5:Int))).toNat:Nat):Int)then iter k (impl_FS_inodes_l1 k) ((0:Int),((y1.2.2.1.take ((wrapK .i64 ((wrapK .i64 (x1+(1:Int)))*(5:Int))).toNat)).drop ((wrapK .i64 (x1*(5:Int))).toNat)),((((y1.2.2.1.take ((wrapK .i64 ((wrapK .i64 (x1+(1:Int)))*(5:Int))).toNat)).drop ((wrapK .i64 (x1*(5:Int))).toNat)).length:Nat):Int),(0:Int))else none)else none)else none)else none)
theorem impl_FS_inodes_run(k:Nat)(x0:(Option DFS))(x1:Int):c_impl_FS_inodes (k+1) (x0,x1)=impl_FS_inodes k x0 x1:=by kernel_rfl
def impl_FS_nextInode_l1(k:Nat)(self:_→Option DQuota)(d:((Option DFS)×DQuota)):=
 (bif (decide (d.2.2<(wrapK .i64 ((wrapK .i64 (d.2.1+(1:Int)))*(5:Int)))))then(d.1).bind fun v0=>
 (if 0≤d.2.2 then(v0.2.2.1[d.2.2.toNat]?).bind fun v1=>
 (bif (v1.1==(0:Int))then some (d.2.2,(0:Int))else self (d.1,d.2.1,(wrapK .i64 (d.2.2+(1:Int)))))else none)else some ((0:Int),(8:Int)))
def impl_FS_nextInode(k:Nat)(x0:(Option DFS))(x1:Int):Option DQuota:=
 (c_impl_FS_inodes k (x0,x1)).bind fun y1=>
 (x0).bind fun y2=>
 (if 0≤x1 then(y2.2.1[x1.toNat]?).bind fun y3=>
 (bif (decide (y3.1≤y1))then some ((0:Int),(7:Int))else iter k (impl_FS_nextInode_l1 k) (x0,x1,(wrapK .i64 (x1*(5:Int)))))else none)
theorem impl_FS_nextInode_run(k:Nat)(x0:(Option DFS))(x1:Int):c_impl_FS_nextInode (k+1) (x0,x1)=impl_FS_nextInode k x0 x1:=by kernel_rfl
def impl_NextInode(k:Nat)(x0:DFS)(x1:Int):Option DQuota:=
 (c_impl_IsFS k x0).bind fun y1=>
 (bif (!y1)then some ((0:Int),(1:Int))else(c_impl_isUser k x1).bind fun y2=>
 (bif (!y2)then some ((0:Int),(1:Int))else(c_impl_FS_nextInode k ((some x0),x1)).bind fun y3=>
 some (y3.1,y3.2)))
theorem impl_NextInode_run(k:Nat)(x0:DFS)(x1:Int):c_impl_NextInode (k+1) (x0,x1)=impl_NextInode k x0 x1:=by kernel_rfl
def impl_UsedBlocks_l1(k:Nat)(self:_→Option (List Int))(d:((List Int)×Dl01Cur)):=
 (bif (decide (d.2.2.2<d.2.2.1))then(if 0≤d.2.2.2 then(d.2.1[d.2.2.2.toNat]?).bind fun v0=>
 (bif (v0 != (-1:Int))then(if(d.1.length+([v0]:List Int).length)*8≤capBytes then self ((d.1++([v0]:List Int)),d.2.1,d.2.2.1,(wrapK .i64 (d.2.2.2+(1:Int))))else none)else self (d.1,d.2.1,d.2.2.1,(wrapK .i64 (d.2.2.2+(1:Int)))))else none)else some d.1)
def impl_UsedBlocks(k:Nat)(x0:DInode):Option (List Int):=
 iter k (impl_UsedBlocks_l1 k) (([]:List Int),x0.2.2.2.2.2.2.2.1,(x0.2.2.2.2.2.2.2.1.length:Int),(0:Int))
theorem impl_UsedBlocks_run(k:Nat)(x0:DInode):c_impl_UsedBlocks (k+1) (x0)=impl_UsedBlocks k x0:=by kernel_rfl
def impl_FS_taken_l1(k:Nat)(a0:_→Option (List Bool))(self:_→Option (List Bool))(d:((List Bool)×((List DInode)×(Int×(Int×Dl01Cur))))):=
 let e0:=d.2.2.2.2
 (bif (decide (e0.2.2<e0.2.1))then(if 0≤e0.2.2 then(if e0.2.2<(e0.1.length:Int)then(e0.1[e0.2.2.toNat]?).bind fun v0=>
 (if 0≤v0 then(if v0<(d.1.length:Int)then(d.1[v0.toNat]?).bind fun v1=>
 self ((d.1.set v0.toNat true),d.2.1,d.2.2.1,d.2.2.2.1,e0.1,e0.2.1,(wrapK .i64 (e0.2.2+(1:Int))))else none)else none)else none)else none)else a0 (d.1,d.2.1,d.2.2.1,(wrapK .i64 (d.2.2.2.1+(1:Int)))))
def impl_FS_taken_l2(k:Nat)(self:_→Option (List Bool))(d:((List Bool)×((List DInode)×DQuota))):=
 (bif (decide (d.2.2.2<d.2.2.1))then(if 0≤d.2.2.2 then(d.2.1[d.2.2.2.toNat]?).bind fun v0=>
 (c_impl_UsedBlocks k v0).bind fun v1=>
 iter k (impl_FS_taken_l1 k self) (d.1,d.2.1,d.2.2.1,d.2.2.2,v1,(v1.length:Int),(0:Int))else none)else some d.1)
def impl_FS_taken(k:Nat)(x0:(Option DFS)):Option (List Bool):=
 (if 0≤(56:Int)then(if(56:Int)≤(56:Int)then(if(56:Int)*1≤(capBytes:Int)then(x0).bind fun y1=>
 iter k (impl_FS_taken_l2 k) ((List.replicate (56:Int).toNat false),y1.2.2.1,(y1.2.2.1.length:Int),(0:Int))else none)else none)else none)
theorem impl_FS_taken_run(k:Nat)(x0:(Option DFS)):c_impl_FS_taken (k+1) (x0)=impl_FS_taken k x0:=by kernel_rfl
def impl_FS_blocks_l1(k:Nat)(a0:Int)(self:_→Option Int)(d:(Int×(Unit×(Int×(Int×(List Bool)))))):=
 (bif (decide (d.2.2.2.1<d.2.2.1))then(if 0≤d.2.2.2.1 then(if d.2.2.2.1<((((wrapK .i64 ((wrapK .i64 (a0+(1:Int)))*(14:Int))).toNat-(wrapK .i64 (a0*(14:Int))).toNat):Nat):Int)then(d.2.2.2.2[((wrapK .i64 (a0*(14:Int))).toNat+d.2.2.2.1.toNat)]?).bind fun v0=>
 (bif v0 then(if(wrapK .i64 (a0*(14:Int))).toNat=(wrapK .i64 (a0*(14:Int))).toNat∧((wrapK .i64 ((wrapK .i64 (a0+(1:Int)))*(14:Int))).toNat-(wrapK .i64 (a0*(14:Int))).toNat)=((wrapK .i64 ((wrapK .i64 (a0+(1:Int)))*(14:Int))).toNat-(wrapK .i64 (a0*(14:Int))).toNat)then self ((wrapK .i64 (d.1+(1:Int))),(),d.2.2.1,(wrapK .i64 (d.2.2.2.1+(1:Int))),d.2.2.2.2)else none)else(if(wrapK .i64 (a0*(14:Int))).toNat=(wrapK .i64 (a0*(14:Int))).toNat∧((wrapK .i64 ((wrapK .i64 (a0+(1:Int)))*(14:Int))).toNat-(wrapK .i64 (a0*(14:Int))).toNat)=((wrapK .i64 ((wrapK .i64 (a0+(1:Int)))*(14:Int))).toNat-(wrapK .i64 (a0*(14:Int))).toNat)then self (d.1,(),d.2.2.1,(wrapK .i64 (d.2.2.2.1+(1:Int))),d.2.2.2.2)else none))else none)else none)else some d.1)
def impl_FS_blocks(k:Nat)(x0:(Option DFS))(x1:Int):Option Int:=
 (c_impl_FS_taken k x0).bind fun y1=>
 (if 0≤(wrapK .i64 ((wrapK .i64 (x1+(1:Int)))*(14:Int)))then(if(wrapK .i64 ((wrapK .i64 (x1+(1:Int)))*(14:Int)))≤(y1.length:Int)then(if 0≤(wrapK .i64 (x1*(14:Int)))then(if(wrapK .i64 (x1*(14:Int)))≤(((wrapK .i64 ((wrapK .i64 (x1+(1:Int)))*(14:Int))).toNat:Nat):Int)then(if(wrapK .i64 (x1*(14:Int))).toNat=(wrapK .i64 (x1*(14:Int))).toNat∧((wrapK .i64 ((wrapK .i64 (x1+(1:Int)))*(14:Int))).toNat-(wrapK .i64 (x1*(14:Int))).toNat)=((wrapK .i64 ((wrapK .i64 (x1+(1:Int)))*(14:Int))).toNat-(wrapK .i64 (x1*(14:Int))).toNat)then iter k (impl_FS_blocks_l1 k x1) ((0:Int),(),((((wrapK .i64 ((wrapK .i64 (x1+(1:Int)))*(14:Int))).toNat-(wrapK .i64 (x1*(14:Int))).toNat):Nat):Int),(0:Int),y1)else none)else none)else none)else none)else none)
theorem impl_FS_blocks_run(k:Nat)(x0:(Option DFS))(x1:Int):c_impl_FS_blocks (k+1) (x0,x1)=impl_FS_blocks k x0 x1:=by kernel_rfl
def impl_FS_nextBlock_l1(k:Nat)(self:_→Option DQuota)(d:(Int×((List Bool)×Int))):=
 (bif (decide (d.2.2<(wrapK .i64 ((wrapK .i64 (d.1+(1:Int)))*(14:Int)))))then(if 0≤d.2.2 then(if d.2.2<(d.2.1.length:Int)then(d.2.1[d.2.2.toNat]?).bind fun v0=>
 (bif (!v0)then some (d.2.2,(0:Int))else self (d.1,d.2.1,(wrapK .i64 (d.2.2+(1:Int)))))else none)else none)else some ((0:Int),(8:Int)))
def impl_FS_nextBlock(k:Nat)(x0:(Option DFS))(x1:Int):Option DQuota:=
 (c_impl_FS_blocks k (x0,x1)).bind fun y1=>
 (x0).bind fun y2=>
 (if 0≤x1 then(y2.2.1[x1.toNat]?).bind fun y3=>
 (bif (decide (y3.2≤y1))then some ((0:Int),(7:Int))else(c_impl_FS_taken k x0).bind fun y4=>
 iter k (impl_FS_nextBlock_l1 k) (x1,y4,(wrapK .i64 (x1*(14:Int)))))else none)
theorem impl_FS_nextBlock_run(k:Nat)(x0:(Option DFS))(x1:Int):c_impl_FS_nextBlock (k+1) (x0,x1)=impl_FS_nextBlock k x0 x1:=by kernel_rfl
def impl_NextBlock(k:Nat)(x0:DFS)(x1:Int):Option DQuota:=
 (c_impl_IsFS k x0).bind fun y1=>
 (bif (!y1)then some ((0:Int),(1:Int))else(c_impl_isUser k x1).bind fun y2=>
 (bif (!y2)then some ((0:Int),(1:Int))else(c_impl_FS_nextBlock k ((some x0),x1)).bind fun y3=>
 some (y3.1,y3.2)))
theorem impl_NextBlock_run(k:Nat)(x0:DFS)(x1:Int):c_impl_NextBlock (k+1) (x0,x1)=impl_NextBlock k x0 x1:=by kernel_rfl
def impl_InodesOf(k:Nat)(x0:DFS)(x1:Int):Option Int:=
 (c_impl_IsFS k x0).bind fun y1=>
 (bif (!y1)then some (0:Int)else(c_impl_isUser k x1).bind fun y2=>
 (bif (!y2)then some (0:Int)else(c_impl_FS_inodes k ((some x0),x1)).bind fun y3=>
 some y3))
theorem impl_InodesOf_run(k:Nat)(x0:DFS)(x1:Int):c_impl_InodesOf (k+1) (x0,x1)=impl_InodesOf k x0 x1:=by kernel_rfl
def impl_BlocksOf(k:Nat)(x0:DFS)(x1:Int):Option Int:=
 (c_impl_IsFS k x0).bind fun y1=>
 (bif (!y1)then some (0:Int)else(c_impl_isUser k x1).bind fun y2=>
 (bif (!y2)then some (0:Int)else(c_impl_FS_blocks k ((some x0),x1)).bind fun y3=>
 some y3))
theorem impl_BlocksOf_run(k:Nat)(x0:DFS)(x1:Int):c_impl_BlocksOf (k+1) (x0,x1)=impl_BlocksOf k x0 x1:=by kernel_rfl
def impl_FS_has(k:Nat)(x0:(Option DFS))(x1:Int):Option Bool:=
 (bif (decide ((0:Int)≤x1))then(bif (decide (x1<(20:Int)))then(x0).bind fun y1=>
 (if 0≤x1 then(y1.2.2.1[x1.toNat]?).bind fun y2=>
 some (y2.1 != (0:Int))else none)else some false)else some false)
theorem impl_FS_has_run(k:Nat)(x0:(Option DFS))(x1:Int):c_impl_FS_has (k+1) (x0,x1)=impl_FS_has k x0 x1:=by kernel_rfl
def impl_PoolOf_l1(k:Nat)(self:_→Option (List Int))(d:(Int×(Unit×((List Int)×(Int×DFS))))):=
 (bif (decide (d.2.2.2.1<(wrapK .i64 ((wrapK .i64 (d.1+(1:Int)))*(5:Int)))))then(c_impl_FS_has k ((some d.2.2.2.2),d.2.2.2.1)).bind fun v0=>
 (bif v0 then(if(d.2.2.1.length+([d.2.2.2.1]:List Int).length)*8≤capBytes then self (d.1,(),(d.2.2.1++([d.2.2.2.1]:List Int)),(wrapK .i64 (d.2.2.2.1+(1:Int))),d.2.2.2.2)else none)else self (d.1,(),d.2.2.1,(wrapK .i64 (d.2.2.2.1+(1:Int))),d.2.2.2.2))else some d.2.2.1)
def impl_PoolOf(k:Nat)(x0:DFS)(x1:Int):Option (List Int):=
 (c_impl_IsFS k x0).bind fun y1=>
 (bif (!y1)then some ([]:List Int)else(c_impl_isUser k x1).bind fun y2=>
 (bif (!y2)then some ([]:List Int)else iter k (impl_PoolOf_l1 k) (x1,(),([]:List Int),(wrapK .i64 (x1*(5:Int))),x0)))
theorem impl_PoolOf_run(k:Nat)(x0:DFS)(x1:Int):c_impl_PoolOf (k+1) (x0,x1)=impl_PoolOf k x0 x1:=by kernel_rfl
def laws_FnPools_l1(k:Nat)(self:_→Option Bool)(d:(Unit×(Int×DFS))):=
 (bif (decide (d.2.1<(4:Int)))then(c_impl_NextInode k (d.2.2,d.2.1)).bind fun v0=>
 (c_impl_NextBlock k (d.2.2,d.2.1)).bind fun v1=>
 (joinK (R:=Bool) ((bif (v0.2==(0:Int))then(bif (decide (v0.1<(0:Int)))then((some false).map .inr)else(bif (decide ((d.2.2.2.2.1.length:Int)≤v0.1))then((some false).map .inr)else(if((5:Int):Int)≠0 then(bif ((wrapK .i64 (v0.1.tdiv (5:Int))) != d.2.1)then((some false).map .inr)else(if 0≤v0.1 then(if v0.1<(d.2.2.2.2.1.length:Int)then(d.2.2.2.2.1[v0.1.toNat]?).bind fun v2=>
 (bif (v2.1 != (0:Int))then((some false).map .inr)else some (.inl ((),d.2.1,v0.2,v1.1,v1.2,d.2.2)))else none)else none))else none)))else some (.inl ((),d.2.1,v0.2,v1.1,v1.2,d.2.2)))) fun(v3:(Unit×(Int×(Int×(Int×(Int×DFS))))))=>let e1:=v3.2.2.2.2;(joinK (R:=Bool) ((bif (e1.1==(0:Int))then(bif (decide (v3.2.2.2.1<(0:Int)))then((some false).map .inr)else(bif (decide ((e1.2.2.2.2.length:Int)≤v3.2.2.2.1))then((some false).map .inr)else(c_impl_BlockOwner k v3.2.2.2.1).bind fun v4=>
 (bif (v4 != v3.2.1)then((some false).map .inr)else(if 0≤v3.2.2.2.1 then(if v3.2.2.2.1<(e1.2.2.2.2.length:Int)then(e1.2.2.2.2[v3.2.2.2.1.toNat]?).bind fun v5=>
 (c_impl_IsZeroes k v5).bind fun v6=>
 (bif (!v6)then((some false).map .inr)else some (.inl ((),v3.2.1,v3.2.2.1,e1.1,e1.2)))else none)else none))))else some (.inl ((),v3.2.1,v3.2.2.1,e1.1,e1.2)))) fun(v7:(Unit×(Int×(Int×(Int×DFS)))))=>let e0:=v7.2.2.2.2;(c_impl_InodesOf k (e0,v7.2.1)).bind fun v8=>
 (if 0≤v7.2.1 then(if v7.2.1<(e0.2.1.length:Int)then(e0.2.1[v7.2.1.toNat]?).bind fun v9=>
 (bif ((v7.2.2.1==(7:Int)) != (decide (v9.1≤v8)))then some false else(c_impl_BlocksOf k (e0,v7.2.1)).bind fun v10=>
 (if 0≤v7.2.1 then(if v7.2.1<(e0.2.1.length:Int)then(e0.2.1[v7.2.1.toNat]?).bind fun v11=>
 (bif ((v7.2.2.2.1==(7:Int)) != (decide (v11.2≤v10)))then some false else(c_impl_PoolOf k (e0,v7.2.1)).bind fun v12=>
 (c_impl_InodesOf k (e0,v7.2.1)).bind fun v13=>
 (bif ((v12.length:Int) != v13)then some false else self ((),(wrapK .i64 (v7.2.1+(1:Int))),e0)))else none)else none))else none)else none)))else(c_impl_IsFS k d.2.2).bind fun v14=>
 (bif v14 then(c_impl_InodesOf k (d.2.2,(0:Int))).bind fun v15=>
 some (decide ((0:Int)<v15))else some false))
def laws_FnPools(k:Nat)(x0:(List Int)):Option Bool:=
 (bif (decide ((1048576:Int)<(x0.length:Int)))then some true else(c_spec_MakeFS k x0).bind fun y1=>
 iter k (laws_FnPools_l1 k) ((),(0:Int),y1))
theorem laws_FnPools_run(k:Nat)(x0:(List Int)):c_laws_FnPools (k+1) (x0)=laws_FnPools k x0:=by kernel_rfl
end
end Go.Proofs.Ytkmnlefjlhogaaa
