/- The tables, the residual functions and lemmas of this seat: parts of the proof of the law; conditions: those that each names. -/
import Derived.Test.YtmmgfgfkkpeedaaGreatTab
set_option maxRecDepth 100000
set_option maxHeartbeats 0
set_option linter.unusedVariables false
namespace Go.Proofs.YtmmgfgfkkpeedaaGreat
open Go.Eng
noncomputable section
def laws_szQuotaS(k:Nat)(x0:(List DQuota))(x1:Int):Option Int:=
 (bif (decide ((wrapK .i64 (x1-(x0.length:Int)))<(0:Int)))then some (-1:Int)else some (wrapK .i64 (x1-(x0.length:Int))))
theorem laws_szQuotaS_run(k:Nat)(x0:(List DQuota))(x1:Int):c_laws_szQuotaS (k+1) (x0,x1)=laws_szQuotaS k x0 x1:=by kernel_rfl
def laws_szIntS(k:Nat)(x0:(List Int))(x1:Int):Option Int:=
 (bif (decide ((wrapK .i64 (x1-(x0.length:Int)))<(0:Int)))then some (-1:Int)else some (wrapK .i64 (x1-(x0.length:Int))))
theorem laws_szIntS_run(k:Nat)(x0:(List Int))(x1:Int):c_laws_szIntS (k+1) (x0,x1)=laws_szIntS k x0 x1:=by kernel_rfl
def laws_szAclEntryS(k:Nat)(x0:(List DOpen))(x1:Int):Option Int:=
 (bif (decide ((wrapK .i64 (x1-(x0.length:Int)))<(0:Int)))then some (-1:Int)else some (wrapK .i64 (x1-(x0.length:Int))))
theorem laws_szAclEntryS_run(k:Nat)(x0:(List DOpen))(x1:Int):c_laws_szAclEntryS (k+1) (x0,x1)=laws_szAclEntryS k x0 x1:=by kernel_rfl
def laws_szInode(k:Nat)(x0:DInode)(x1:Int):Option Int:=
 (c_laws_szIntS k (x0.2.2.2.2.2.2.2.1,x1)).bind fun y1=>
 (bif (decide (y1<(0:Int)))then some (-1:Int)else(c_laws_szAclEntryS k (x0.2.2.2.2.2.2.2.2.1,y1)).bind fun y2=>
 (bif (decide (y2<(0:Int)))then some (-1:Int)else(c_laws_szAclEntryS k (x0.2.2.2.2.2.2.2.2.2,y2)).bind fun y3=>
 (bif (decide (y3<(0:Int)))then some (-1:Int)else some y3)))
theorem laws_szInode_run(k:Nat)(x0:DInode)(x1:Int):c_laws_szInode (k+1) (x0,x1)=laws_szInode k x0 x1:=by kernel_rfl
def laws_szInodeS_l1(k:Nat)(self:_→Option Int)(d:((List DInode)×DQuota)):=
 (bif (decide (d.2.2<(d.1.length:Int)))then(if 0≤d.2.2 then(d.1[d.2.2.toNat]?).bind fun v0=>
 (c_laws_szInode k (v0,d.2.1)).bind fun v1=>
 (bif (decide (v1<(0:Int)))then some (-1:Int)else self (d.1,v1,(wrapK .i64 (d.2.2+(1:Int)))))else none)else some d.2.1)
def laws_szInodeS(k:Nat)(x0:(List DInode))(x1:Int):Option Int:=
 (bif (decide ((wrapK .i64 (x1-(x0.length:Int)))<(0:Int)))then some (-1:Int)else iter k (laws_szInodeS_l1 k) (x0,(wrapK .i64 (x1-(x0.length:Int))),(0:Int)))
theorem laws_szInodeS_run(k:Nat)(x0:(List DInode))(x1:Int):c_laws_szInodeS (k+1) (x0,x1)=laws_szInodeS k x0 x1:=by kernel_rfl
def laws_szStringS_l1(k:Nat)(self:_→Option Int)(d:((List ByteArray)×DQuota)):=
 (bif (decide (d.2.2<(d.1.length:Int)))then(if 0≤d.2.2 then(d.1[d.2.2.toNat]?).bind fun v0=>
 (bif (decide ((wrapK .i64 (d.2.1-(v0.size:Int)))<(0:Int)))then some (-1:Int)else self (d.1,(wrapK .i64 (d.2.1-(v0.size:Int))),(wrapK .i64 (d.2.2+(1:Int)))))else none)else some d.2.1)
def laws_szStringS(k:Nat)(x0:(List ByteArray))(x1:Int):Option Int:=
 (bif (decide ((wrapK .i64 (x1-(x0.length:Int)))<(0:Int)))then some (-1:Int)else iter k (laws_szStringS_l1 k) (x0,(wrapK .i64 (x1-(x0.length:Int))),(0:Int)))
theorem laws_szStringS_run(k:Nat)(x0:(List ByteArray))(x1:Int):c_laws_szStringS (k+1) (x0,x1)=laws_szStringS k x0 x1:=by kernel_rfl
def laws_szFS(k:Nat)(x0:DFS)(x1:Int):Option Int:=
 (c_laws_szQuotaS k (x0.2.1,x1)).bind fun y1=>
 (bif (decide (y1<(0:Int)))then some (-1:Int)else(c_laws_szInodeS k (x0.2.2.1,y1)).bind fun y2=>
 (bif (decide (y2<(0:Int)))then some (-1:Int)else(c_laws_szStringS k (x0.2.2.2,y2)).bind fun y3=>
 (bif (decide (y3<(0:Int)))then some (-1:Int)else some y3)))
theorem laws_szFS_run(k:Nat)(x0:DFS)(x1:Int):c_laws_szFS (k+1) (x0,x1)=laws_szFS k x0 x1:=by kernel_rfl
def laws_szCred(k:Nat)(x0:DCred)(x1:Int):Option Int:=
 (c_laws_szIntS k (x0.2.2,x1)).bind fun y1=>
 (bif (decide (y1<(0:Int)))then some (-1:Int)else some y1)
theorem laws_szCred_run(k:Nat)(x0:DCred)(x1:Int):c_laws_szCred (k+1) (x0,x1)=laws_szCred k x0 x1:=by kernel_rfl
def laws_szCredS_l1(k:Nat)(self:_→Option Int)(d:((List DCred)×DQuota)):=
 (bif (decide (d.2.2<(d.1.length:Int)))then(if 0≤d.2.2 then(d.1[d.2.2.toNat]?).bind fun v0=>
 (c_laws_szCred k (v0,d.2.1)).bind fun v1=>
 (bif (decide (v1<(0:Int)))then some (-1:Int)else self (d.1,v1,(wrapK .i64 (d.2.2+(1:Int)))))else none)else some d.2.1)
def laws_szCredS(k:Nat)(x0:(List DCred))(x1:Int):Option Int:=
 (bif (decide ((wrapK .i64 (x1-(x0.length:Int)))<(0:Int)))then some (-1:Int)else iter k (laws_szCredS_l1 k) (x0,(wrapK .i64 (x1-(x0.length:Int))),(0:Int)))
theorem laws_szCredS_run(k:Nat)(x0:(List DCred))(x1:Int):c_laws_szCredS (k+1) (x0,x1)=laws_szCredS k x0 x1:=by kernel_rfl
def spec_l01In(k:Nat)(x0:Int)(x1:Int)(x2:Int):Option Bool:=
 (bif (decide (x1≤x0))then some (decide (x0≤x2))else some false)
theorem spec_l01In_run(k:Nat)(x0:Int)(x1:Int)(x2:Int):c_spec_l01In (k+1) (x0,x1,x2)=spec_l01In k x0 x1 x2:=by kernel_rfl
def spec_l02Has_l1(k:Nat)(self:_→Option Bool)(d:(Int×((List Int)×DQuota))):=
 (bif (decide (d.2.2.2<d.2.2.1))then(if 0≤d.2.2.2 then(d.2.1[d.2.2.2.toNat]?).bind fun v0=>
 (bif (v0==d.1)then some true else self (d.1,d.2.1,d.2.2.1,(wrapK .i64 (d.2.2.2+(1:Int)))))else none)else some false)
def spec_l02Has(k:Nat)(x0:(List Int))(x1:Int):Option Bool:=
 iter k (spec_l02Has_l1 k) (x1,x0,(x0.length:Int),(0:Int))
theorem spec_l02Has_run(k:Nat)(x0:(List Int))(x1:Int):c_spec_l02Has (k+1) (x0,x1)=spec_l02Has k x0 x1:=by kernel_rfl
def spec_l02Same_l1(k:Nat)(self:_→Option Bool)(d:((List Int)×((List Int)×DQuota))):=
 (bif (decide (d.2.2.2<d.2.2.1))then(if 0≤d.2.2.2 then(d.2.1[d.2.2.2.toNat]?).bind fun v0=>
 (if 0≤d.2.2.2 then(d.1[d.2.2.2.toNat]?).bind fun v1=>
 (bif (v0 != v1)then some false else self (d.1,d.2.1,d.2.2.1,(wrapK .i64 (d.2.2.2+(1:Int)))))else none)else none)else some true)
def spec_l02Same(k:Nat)(x0:(List Int))(x1:(List Int)):Option Bool:=
 (bif ((x0.length:Int) != (x1.length:Int))then some false else iter k (spec_l02Same_l1 k) (x1,x0,(x0.length:Int),(0:Int)))
theorem spec_l02Same_run(k:Nat)(x0:(List Int))(x1:(List Int)):c_spec_l02Same (k+1) (x0,x1)=spec_l02Same k x0 x1:=by kernel_rfl
def spec_l05Same_l1(k:Nat)(self:_→Option Bool)(d:((List DOpen)×((List DOpen)×DQuota))):=
 (bif (decide (d.2.2.2<d.2.2.1))then(if 0≤d.2.2.2 then(d.2.1[d.2.2.2.toNat]?).bind fun v0=>
 (if 0≤d.2.2.2 then(d.1[d.2.2.2.toNat]?).bind fun v1=>
 (bif (!((v0.1==v1.1)&&((v0.2.1==v1.2.1)&&(v0.2.2==v1.2.2))))then some false else self (d.1,d.2.1,d.2.2.1,(wrapK .i64 (d.2.2.2+(1:Int)))))else none)else none)else some true)
def spec_l05Same(k:Nat)(x0:(List DOpen))(x1:(List DOpen)):Option Bool:=
 (bif ((x0.length:Int) != (x1.length:Int))then some false else iter k (spec_l05Same_l1 k) (x1,x0,(x0.length:Int),(0:Int)))
theorem spec_l05Same_run(k:Nat)(x0:(List DOpen))(x1:(List DOpen)):c_spec_l05Same (k+1) (x0,x1)=spec_l05Same k x0 x1:=by kernel_rfl
def spec_SameInode(k:Nat)(x0:DInode)(x1:DInode):Option Bool:=
 (bif (x0.1 != x1.1)then some false else(bif (x0.2.1 != x1.2.1)then some false else(bif (x0.2.2.1 != x1.2.2.1)then some false else(bif (x0.2.2.2.1 != x1.2.2.2.1)then some false else(bif (x0.2.2.2.2.1 != x1.2.2.2.2.1)then some false else(bif (x0.2.2.2.2.2.1 != x1.2.2.2.2.2.1)then some false else(bif (x0.2.2.2.2.2.2.1 != x1.2.2.2.2.2.2.1)then some false else(c_spec_l02Same k (x0.2.2.2.2.2.2.2.1,x1.2.2.2.2.2.2.2.1)).bind fun y1=>
 (bif y1 then(c_spec_l05Same k (x0.2.2.2.2.2.2.2.2.1,x1.2.2.2.2.2.2.2.2.1)).bind fun y2=>
 (bif y2 then(c_spec_l05Same k (x0.2.2.2.2.2.2.2.2.2,x1.2.2.2.2.2.2.2.2.2)).bind fun y3=>
 some y3 else some false)else some false))))))))
theorem spec_SameInode_run(k:Nat)(x0:DInode)(x1:DInode):c_spec_SameInode (k+1) (x0,x1)=spec_SameInode k x0 x1:=by kernel_rfl
def spec_l06User(k:Nat)(x0:Int):Option Bool:=
 (c_spec_l01In k (x0,(0:Int),(3:Int))).bind fun y1=>
 some y1
theorem spec_l06User_run(k:Nat)(x0:Int):c_spec_l06User (k+1) (x0)=spec_l06User k x0:=by kernel_rfl
def spec_l06Mode(k:Nat)(x0:Int):Option Bool:=
 (c_spec_l01In k (x0,(0:Int),(2047:Int))).bind fun y1=>
 some y1
theorem spec_l06Mode_run(k:Nat)(x0:Int):c_spec_l06Mode (k+1) (x0)=spec_l06Mode k x0:=by kernel_rfl
def spec_BlocksNeeded(k:Nat)(x0:Int):Option Int:=
 (bif (decide (x0≤(0:Int)))then some (0:Int)else(if((32:Int):Int)≠0 then some (wrapK .i64 ((wrapK .i64 ((wrapK .i64 (x0-(1:Int))).tdiv (32:Int)))+(1:Int)))else none))
theorem spec_BlocksNeeded_run(k:Nat)(x0:Int):c_spec_BlocksNeeded (k+1) (x0)=spec_BlocksNeeded k x0:=by kernel_rfl
def spec_l05Entry(k:Nat)(x0:DOpen):Option Bool:=
 (c_spec_l01In k (x0.2.2,(0:Int),(7:Int))).bind fun y1=>
 (bif (!y1)then some false else(bif (x0.1==(1:Int))then(bif (x0.1==(1:Int))then(c_spec_l01In k (x0.2.1,(0:Int),(3:Int))).bind fun y2=>
 some y2 else(bif (x0.1==(3:Int))then some (x0.2.1==(0:Int))else some false))else(bif (x0.1==(2:Int))then(c_spec_l01In k (x0.2.1,(0:Int),(3:Int))).bind fun y3=>
 some y3 else(bif (x0.1==(3:Int))then some (x0.2.1==(0:Int))else some false))))
theorem spec_l05Entry_run(k:Nat)(x0:DOpen):c_spec_l05Entry (k+1) (x0)=spec_l05Entry k x0:=by kernel_rfl
def spec_IsAcl_l1(k:Nat)(self:_→Option Bool)(d:((List DOpen)×((List DOpen)×DQuota))):=
 (bif (decide (d.2.2.2<d.2.2.1))then(if 0≤d.2.2.2 then(d.2.1[d.2.2.2.toNat]?).bind fun v0=>
 (c_spec_l05Entry k v0).bind fun v1=>
 (bif (!v1)then some false else(bif (decide ((0:Int)<d.2.2.2))then(if 0≤(wrapK .i64 (d.2.2.2-(1:Int)))then(d.1[(wrapK .i64 (d.2.2.2-(1:Int))).toNat]?).bind fun v2=>
 (bif (decide (v0.1<v2.1))then some false else(if 0≤(wrapK .i64 (d.2.2.2-(1:Int)))then(d.1[(wrapK .i64 (d.2.2.2-(1:Int))).toNat]?).bind fun v3=>
 (bif (v3.1==v0.1)then(if 0≤(wrapK .i64 (d.2.2.2-(1:Int)))then(d.1[(wrapK .i64 (d.2.2.2-(1:Int))).toNat]?).bind fun v4=>
 (bif (decide (v0.2.1≤v4.2.1))then some false else self (d.1,d.2.1,d.2.2.1,(wrapK .i64 (d.2.2.2+(1:Int)))))else none)else self (d.1,d.2.1,d.2.2.1,(wrapK .i64 (d.2.2.2+(1:Int)))))else none))else none)else self (d.1,d.2.1,d.2.2.1,(wrapK .i64 (d.2.2.2+(1:Int))))))else none)else(bif ((d.1.length:Int)==(0:Int))then some true else(bif (decide ((d.1.length:Int)≤(6:Int)))then(if 0≤(wrapK .i64 ((d.1.length:Int)-(1:Int)))then(d.1[(wrapK .i64 ((d.1.length:Int)-(1:Int))).toNat]?).bind fun v5=>
 some (v5.1==(3:Int))else none)else some false)))
def spec_IsAcl(k:Nat)(x0:(List DOpen)):Option Bool:=
 iter k (spec_IsAcl_l1 k) (x0,x0,(x0.length:Int),(0:Int))
theorem spec_IsAcl_run(k:Nat)(x0:(List DOpen)):c_spec_IsAcl (k+1) (x0)=spec_IsAcl k x0:=by kernel_rfl
def spec_IsInode_l1(k:Nat)(self:_→Option Bool)(d:(Unit×((List Int)×(Int×(Int×DInode))))):=
 let e0:=d.2.2.2.2
 (bif (decide (d.2.2.2.1<d.2.2.1))then(if 0≤d.2.2.2.1 then(d.2.1[d.2.2.2.1.toNat]?).bind fun v0=>
 (c_spec_l01In k (v0,(-1:Int),(999:Int))).bind fun v1=>
 (bif (!v1)then some false else(bif (v0 != (-1:Int))then(if 0≤d.2.2.2.1 then(if d.2.2.2.1≤(e0.2.2.2.2.2.2.2.1.length:Int)then(c_spec_l02Has k (((e0.2.2.2.2.2.2.2.1.take d.2.2.2.1.toNat).drop 0),v0)).bind fun v2=>
 (bif v2 then some false else self ((),d.2.1,d.2.2.1,(wrapK .i64 (d.2.2.2.1+(1:Int))),e0))else none)else none)else self ((),d.2.1,d.2.2.1,(wrapK .i64 (d.2.2.2.1+(1:Int))),e0)))else none)else(joinK (R:=Bool) ((bif (e0.1==(1:Int))then(bif (decide ((0:Int)<(e0.2.2.2.2.2.2.2.2.2.length:Int)))then((some false).map .inr)else(bif ((intBits .and .i64 e0.2.1 (512:Int)) != (0:Int))then((some false).map .inr)else some (.inl ((),e0))))else some (.inl ((),e0)))) fun(v3:(Unit×DInode))=>(c_spec_IsAcl k v3.2.2.2.2.2.2.2.2.2.1).bind fun v4=>
 (bif v4 then(c_spec_IsAcl k v3.2.2.2.2.2.2.2.2.2.2).bind fun v5=>
 some v5 else some false)))
def spec_IsInode(k:Nat)(x0:DInode):Option Bool:=
 (bif (x0.1==(0:Int))then(c_spec_SameInode k (x0,((0:Int),(0:Int),(0:Int),(0:Int),(0:Int),(0:Int),(0:Int),([]:List Int),([]:List DOpen),([]:List DOpen)))).bind fun y1=>
 some y1 else(joinK (R:=Bool) ((bif (x0.1 != (1:Int))then(bif (x0.1 != (2:Int))then((some false).map .inr)else(c_spec_l06Mode k x0.2.1).bind fun y3=>
 (bif (!y3)then((some false).map .inr)else(c_spec_l06User k x0.2.2.1).bind fun y4=>
 (bif (!y4)then((some false).map .inr)else(c_spec_l06User k x0.2.2.2.1).bind fun y5=>
 (bif (!y5)then((some false).map .inr)else(c_spec_l01In k (x0.2.2.2.2.1,(0:Int),(1000:Int))).bind fun y6=>
 (bif (!y6)then((some false).map .inr)else(c_spec_l01In k (x0.2.2.2.2.2.1,(0:Int),(256:Int))).bind fun y7=>
 (bif (!y7)then((some false).map .inr)else(c_spec_l01In k (x0.2.2.2.2.2.2.1,(0:Int),(1000000000:Int))).bind fun y8=>
 (bif (!y8)then((some false).map .inr)else(c_spec_BlocksNeeded k x0.2.2.2.2.2.1).bind fun y9=>
 (bif ((x0.2.2.2.2.2.2.2.1.length:Int) != y9)then((some false).map .inr)else some (.inl ((),x0))))))))))else(c_spec_l06Mode k x0.2.1).bind fun y10=>
 (bif (!y10)then((some false).map .inr)else(c_spec_l06User k x0.2.2.1).bind fun y11=>
 (bif (!y11)then((some false).map .inr)else(c_spec_l06User k x0.2.2.2.1).bind fun y12=>
 (bif (!y12)then((some false).map .inr)else(c_spec_l01In k (x0.2.2.2.2.1,(0:Int),(1000:Int))).bind fun y13=>
 (bif (!y13)then((some false).map .inr)else(c_spec_l01In k (x0.2.2.2.2.2.1,(0:Int),(256:Int))).bind fun y14=>
 (bif (!y14)then((some false).map .inr)else(c_spec_l01In k (x0.2.2.2.2.2.2.1,(0:Int),(1000000000:Int))).bind fun y15=>
 (bif (!y15)then((some false).map .inr)else(c_spec_BlocksNeeded k x0.2.2.2.2.2.1).bind fun y16=>
 (bif ((x0.2.2.2.2.2.2.2.1.length:Int) != y16)then((some false).map .inr)else some (.inl ((),x0))))))))))) fun(d2:(Unit×DInode))=>iter k (spec_IsInode_l1 k) ((),d2.2.2.2.2.2.2.2.2.1,(d2.2.2.2.2.2.2.2.2.1.length:Int),(0:Int),d2.2)))
theorem spec_IsInode_run(k:Nat)(x0:DInode):c_spec_IsInode (k+1) (x0)=spec_IsInode k x0:=by kernel_rfl
def spec_BlockOwner(k:Nat)(x0:Int):Option Int:=
 (c_spec_l01In k (x0,(0:Int),(55:Int))).bind fun y1=>
 (bif (!y1)then some (-1:Int)else(if((14:Int):Int)≠0 then some (wrapK .i64 (x0.tdiv (14:Int)))else none))
theorem spec_BlockOwner_run(k:Nat)(x0:Int):c_spec_BlockOwner (k+1) (x0)=spec_BlockOwner k x0:=by kernel_rfl
def spec_l08Used_l1(k:Nat)(a0:_→Option ((List Bool)×Bool))(self:_→Option ((List Bool)×Bool))(d:((List Bool)×(Unit×((List DInode)×(Int×(Int×((List Int)×(Int×(Int×DInode))))))))):=
 let e0:=d.2.2.2.2
 (bif (decide (e0.2.2.2.1<e0.2.2.1))then(if 0≤e0.2.2.2.1 then(e0.2.1[e0.2.2.2.1.toNat]?).bind fun v0=>
 (bif (v0==(-1:Int))then self (d.1,(),d.2.2.1,d.2.2.2.1,e0.1,e0.2.1,e0.2.2.1,(wrapK .i64 (e0.2.2.2.1+(1:Int))),e0.2.2.2.2)else(c_spec_BlockOwner k v0).bind fun v1=>
 (bif (v1 != e0.2.2.2.2.2.2.1)then some (([]:List Bool),false)else(if 0≤v0 then(if v0<(d.1.length:Int)then(d.1[v0.toNat]?).bind fun v2=>
 (bif v2 then some (([]:List Bool),false)else(if 0≤v0 then(if v0<(d.1.length:Int)then(d.1[v0.toNat]?).bind fun v3=>
 self ((d.1.set v0.toNat true),(),d.2.2.1,d.2.2.2.1,e0.1,e0.2.1,e0.2.2.1,(wrapK .i64 (e0.2.2.2.1+(1:Int))),e0.2.2.2.2)else none)else none))else none)else none)))else none)else a0 (d.1,d.2.2.1,d.2.2.2.1,(wrapK .i64 (e0.1+(1:Int)))))
def spec_l08Used_l2(k:Nat)(self:_→Option ((List Bool)×Bool))(d:((List Bool)×((List DInode)×DQuota))):=
 (bif (decide (d.2.2.2<d.2.2.1))then(if 0≤d.2.2.2 then(d.2.1[d.2.2.2.toNat]?).bind fun v0=>
 iter k (spec_l08Used_l1 k self) (d.1,(),d.2.1,d.2.2.1,d.2.2.2,v0.2.2.2.2.2.2.2.1,(v0.2.2.2.2.2.2.2.1.length:Int),(0:Int),v0)else none)else some (d.1,true))
def spec_l08Used(k:Nat)(x0:DFS):Option ((List Bool)×Bool):=
 (if 0≤(56:Int)then(if(56:Int)≤(56:Int)then(if(56:Int)*1≤(capBytes:Int)then iter k (spec_l08Used_l2 k) ((List.replicate (56:Int).toNat false),x0.2.2.1,(x0.2.2.1.length:Int),(0:Int))else none)else none)else none)
theorem spec_l08Used_run(k:Nat)(x0:DFS):c_spec_l08Used (k+1) (x0)=spec_l08Used k x0:=by kernel_rfl
def spec_IsZeroes_l1(k:Nat)(self:_→Option Bool)(d:DerrorAddressString):=
 (bif (decide (d.2<(d.1.size:Int)))then(if 0≤d.2 then((d.1[d.2.toNat]?.map fun v0=>(v0.toNat:Int))).bind fun v1=>
 (bif (v1 != (0:Int))then some false else self (d.1,(wrapK .i64 (d.2+(1:Int)))))else none)else some true)
def spec_IsZeroes(k:Nat)(x0:ByteArray):Option Bool:=
 iter k (spec_IsZeroes_l1 k) (x0,(0:Int))
theorem spec_IsZeroes_run(k:Nat)(x0:ByteArray):c_spec_IsZeroes (k+1) (x0)=spec_IsZeroes k x0:=by kernel_rfl
def spec_IsFS_l1(k:Nat)(self:_→Option Bool)(d:(Unit×((List DInode)×(Int×(Int×DFS))))):=
 let e0:=d.2.2.2.2
 (bif (decide (d.2.2.2.1<d.2.2.1))then(if 0≤d.2.2.2.1 then(d.2.1[d.2.2.2.1.toNat]?).bind fun v0=>
 (bif (decide ((0:Int)≤(wrapK .i64 ((v0.2.2.2.2.2.2.2.1.length:Int)-(1:Int)))))then(if 0≤(wrapK .i64 ((v0.2.2.2.2.2.2.2.1.length:Int)-(1:Int)))then(v0.2.2.2.2.2.2.2.1[(wrapK .i64 ((v0.2.2.2.2.2.2.2.1.length:Int)-(1:Int))).toNat]?).bind fun v1=>
 (bif (v1 != (-1:Int))then(if 0≤(wrapK .i64 ((v0.2.2.2.2.2.2.2.1.length:Int)-(1:Int)))then(v0.2.2.2.2.2.2.2.1[(wrapK .i64 ((v0.2.2.2.2.2.2.2.1.length:Int)-(1:Int))).toNat]?).bind fun v2=>
 (if 0≤v2 then(e0.2.2.2[v2.toNat]?).bind fun v3=>
 (if 0≤(wrapK .i64 (v0.2.2.2.2.2.1-(wrapK .i64 ((wrapK .i64 ((v0.2.2.2.2.2.2.2.1.length:Int)-(1:Int)))*(32:Int)))))then(if(wrapK .i64 (v0.2.2.2.2.2.1-(wrapK .i64 ((wrapK .i64 ((v0.2.2.2.2.2.2.2.1.length:Int)-(1:Int)))*(32:Int)))))≤(v3.size:Int)then(c_spec_IsZeroes k (v3.extract ((wrapK .i64 (v0.2.2.2.2.2.1-(wrapK .i64 ((wrapK .i64 ((v0.2.2.2.2.2.2.2.1.length:Int)-(1:Int)))*(32:Int))))).toNat) v3.size)).bind fun v4=>
 (bif (!v4)then some false else self ((),d.2.1,d.2.2.1,(wrapK .i64 (d.2.2.2.1+(1:Int))),e0))else none)else none)else none)else none)else self ((),d.2.1,d.2.2.1,(wrapK .i64 (d.2.2.2.1+(1:Int))),e0))else none)else self ((),d.2.1,d.2.2.1,(wrapK .i64 (d.2.2.2.1+(1:Int))),e0))else none)else some true)
def spec_IsFS_l2(k:Nat)(self:_→Option Bool)(d:(Unit×((List Bool)×((List ByteArray)×(Int×(Int×DFS)))))):=
 let e0:=d.2.2.2.2
 (bif (decide (e0.1<d.2.2.2.1))then(if 0≤e0.1 then(d.2.2.1[e0.1.toNat]?).bind fun v0=>
 (bif ((v0.size:Int) != (32:Int))then some false else(if 0≤e0.1 then(if e0.1<(d.2.1.length:Int)then(d.2.1[e0.1.toNat]?).bind fun v1=>
 (bif (!v1)then(c_spec_IsZeroes k v0).bind fun v2=>
 (bif (!v2)then some false else self ((),d.2.1,d.2.2.1,d.2.2.2.1,(wrapK .i64 (e0.1+(1:Int))),e0.2))else self ((),d.2.1,d.2.2.1,d.2.2.2.1,(wrapK .i64 (e0.1+(1:Int))),e0.2))else none)else none))else none)else iter k (spec_IsFS_l1 k) ((),e0.2.2.2.1,(e0.2.2.2.1.length:Int),(0:Int),e0.2))
def spec_IsFS_l3(k:Nat)(self:_→Option Bool)(d:(Unit×((List DInode)×(Int×(Int×DFS))))):=
 let e0:=d.2.2.2.2
 (bif (decide (d.2.2.2.1<d.2.2.1))then(if 0≤d.2.2.2.1 then(d.2.1[d.2.2.2.1.toNat]?).bind fun v0=>
 (c_spec_IsInode k v0).bind fun v1=>
 (bif (!v1)then some false else self ((),d.2.1,d.2.2.1,(wrapK .i64 (d.2.2.2.1+(1:Int))),e0))else none)else(if 0≤(0:Int)then(e0.2.2.1[(0:Int).toNat]?).bind fun v2=>
 (bif (v2.1 != (2:Int))then some false else(c_spec_l08Used k e0).bind fun v3=>
 (bif (!v3.2)then some false else iter k (spec_IsFS_l2 k) ((),v3.1,e0.2.2.2,(e0.2.2.2.length:Int),(0:Int),e0)))else none))
def spec_IsFS_l4(k:Nat)(self:_→Option Bool)(d:(Unit×((List DQuota)×(Int×(Int×DFS))))):=
 let e0:=d.2.2.2.2
 (bif (decide (d.2.2.2.1<d.2.2.1))then(if 0≤d.2.2.2.1 then(d.2.1[d.2.2.2.1.toNat]?).bind fun v0=>
 (c_spec_l01In k (v0.1,(0:Int),(5:Int))).bind fun v1=>
 (bif (!v1)then some false else(c_spec_l01In k (v0.2,(0:Int),(14:Int))).bind fun v2=>
 (bif (!v2)then some false else self ((),d.2.1,d.2.2.1,(wrapK .i64 (d.2.2.2.1+(1:Int))),e0)))else none)else iter k (spec_IsFS_l3 k) ((),e0.2.2.1,(e0.2.2.1.length:Int),(0:Int),e0))
def spec_IsFS(k:Nat)(x0:DFS):Option Bool:=
 (c_spec_l01In k (x0.1,(0:Int),(1000000000:Int))).bind fun y1=>
 (bif (!y1)then some false else(bif ((x0.2.1.length:Int) != (4:Int))then some false else(bif ((x0.2.2.1.length:Int) != (20:Int))then some false else(bif ((x0.2.2.2.length:Int) != (56:Int))then some false else iter k (spec_IsFS_l4 k) ((),x0.2.1,(x0.2.1.length:Int),(0:Int),x0)))))
theorem spec_IsFS_run(k:Nat)(x0:DFS):c_spec_IsFS (k+1) (x0)=spec_IsFS k x0:=by kernel_rfl
def spec_IsCred_l1(k:Nat)(self:_→Option Bool)(d:(Unit×((List Int)×(Int×(Int×DCred))))):=
 let e0:=d.2.2.2.2
 (bif (decide (d.2.2.2.1<d.2.2.1))then(if 0≤d.2.2.2.1 then(d.2.1[d.2.2.2.1.toNat]?).bind fun v0=>
 (c_spec_l06User k v0).bind fun v1=>
 (bif (!v1)then some false else(bif (decide ((0:Int)<d.2.2.2.1))then(if 0≤(wrapK .i64 (d.2.2.2.1-(1:Int)))then(e0.2.2[(wrapK .i64 (d.2.2.2.1-(1:Int))).toNat]?).bind fun v2=>
 (bif (decide (v0≤v2))then some false else self ((),d.2.1,d.2.2.1,(wrapK .i64 (d.2.2.2.1+(1:Int))),e0))else none)else self ((),d.2.1,d.2.2.1,(wrapK .i64 (d.2.2.2.1+(1:Int))),e0)))else none)else(c_spec_l06User k e0.1).bind fun v3=>
 (bif v3 then(c_spec_l06User k e0.2.1).bind fun v4=>
 some v4 else some false))
def spec_IsCred(k:Nat)(x0:DCred):Option Bool:=
 iter k (spec_IsCred_l1 k) ((),x0.2.2,(x0.2.2.length:Int),(0:Int),x0)
theorem spec_IsCred_run(k:Nat)(x0:DCred):c_spec_IsCred (k+1) (x0)=spec_IsCred k x0:=by kernel_rfl
def spec_l16Open(k:Nat)(x0:DFS)(x1:DOpen):Option Bool:=
 (bif (x1.2.2==(0:Int))then some ((x1.1==(0:Int))&&((x1.2.1==(0:Int))&&(x1.2.2==(0:Int))))else(c_spec_l01In k (x1.2.2,(1:Int),(63:Int))).bind fun y1=>
 (bif y1 then(bif ((intBits .and .i64 x1.2.2 (6:Int)) != (0:Int))then(c_spec_l01In k (x1.1,(0:Int),(19:Int))).bind fun y2=>
 (bif y2 then(if 0≤x1.1 then(x0.2.2.1[x1.1.toNat]?).bind fun y3=>
 (bif (y3.1==(1:Int))then(c_spec_l01In k (x1.2.1,(0:Int),(1000000:Int))).bind fun y4=>
 some y4 else some false)else none)else some false)else some false)else some false))
theorem spec_l16Open_run(k:Nat)(x0:DFS)(x1:DOpen):c_spec_l16Open (k+1) (x0,x1)=spec_l16Open k x0 x1:=by kernel_rfl
def spec_l16Busy_l1(k:Nat)(a0:_→Option (List Int))(self:_→Option (List Int))(d:(Unit×((List Int)×(Int×(Bool×((List DProc)×(Int×(Int×((List DOpen)×(Int×(Int×DSystem))))))))))):=
 let e0:=d.2.2.2.2
 let e1:=e0.2.2.2.2
 (bif (decide (e1.2.1<e1.1))then(if 0≤e1.2.1 then(e0.2.2.2.1[e1.2.1.toNat]?).bind fun v0=>
 (bif d.2.2.2.1 then self ((),d.2.1,d.2.2.1,true,e0.1,e0.2.1,e0.2.2.1,e0.2.2.2.1,e1.1,(wrapK .i64 (e1.2.1+(1:Int))),e1.2.2)else(bif (v0.2.2 != (0:Int))then self ((),d.2.1,d.2.2.1,(v0.1==d.2.2.1),e0.1,e0.2.1,e0.2.2.1,e0.2.2.2.1,e1.1,(wrapK .i64 (e1.2.1+(1:Int))),e1.2.2)else self ((),d.2.1,d.2.2.1,false,e0.1,e0.2.1,e0.2.2.1,e0.2.2.2.1,e1.1,(wrapK .i64 (e1.2.1+(1:Int))),e1.2.2)))else none)else a0 ((),d.2.1,d.2.2.1,d.2.2.2.1,e0.1,e0.2.1,(wrapK .i64 (e0.2.2.1+(1:Int))),e1.2.2))
def spec_l16Busy_l2(k:Nat)(a0:_→Option (List Int))(self:_→Option (List Int))(d:(Unit×((List Int)×(Int×(Bool×((List DProc)×(Int×(Int×DSystem)))))))):=
 let e0:=d.2.2.2.2
 (bif (decide (e0.2.2.1<e0.2.1))then(if 0≤e0.2.2.1 then(e0.1[e0.2.2.1.toNat]?).bind fun v0=>
 iter k (spec_l16Busy_l1 k self) ((),d.2.1,d.2.2.1,d.2.2.2.1,e0.1,e0.2.1,e0.2.2.1,v0.2,(v0.2.length:Int),(0:Int),e0.2.2.2)else none)else(bif d.2.2.2.1 then(if(d.2.1.length+([d.2.2.1]:List Int).length)*8≤capBytes then a0 ((),(d.2.1++([d.2.2.1]:List Int)),(wrapK .i64 (d.2.2.1+(1:Int))),e0.2.2.2)else none)else a0 ((),d.2.1,(wrapK .i64 (d.2.2.1+(1:Int))),e0.2.2.2)))
def spec_l16Busy_l3(k:Nat)(self:_→Option (List Int))(d:(Unit×((List Int)×(Int×DSystem)))):=
 (bif (decide (d.2.2.1<(20:Int)))then iter k (spec_l16Busy_l2 k self) ((),d.2.1,d.2.2.1,false,d.2.2.2.2,(d.2.2.2.2.length:Int),(0:Int),d.2.2.2)else some d.2.1)
def spec_l16Busy(k:Nat)(x0:DSystem):Option (List Int):=
 iter k (spec_l16Busy_l3 k) ((),([]:List Int),(0:Int),x0)
theorem spec_l16Busy_run(k:Nat)(x0:DSystem):c_spec_l16Busy (k+1) (x0)=spec_l16Busy k x0:=by kernel_rfl
def spec_IsSystem_l1(k:Nat)(a0:_→Option Bool)(self:_→Option Bool)(d:(Unit×((List DProc)×(Int×(Int×((List DOpen)×(Int×(Int×DSystem)))))))):=
 let e0:=d.2.2.2.2
 (bif (decide (e0.2.2.1<e0.2.1))then(if 0≤e0.2.2.1 then(e0.1[e0.2.2.1.toNat]?).bind fun v0=>
 (c_spec_l16Open k (e0.2.2.2.1,v0)).bind fun v1=>
 (bif (!v1)then some false else self ((),d.2.1,d.2.2.1,d.2.2.2.1,e0.1,e0.2.1,(wrapK .i64 (e0.2.2.1+(1:Int))),e0.2.2.2))else none)else a0 ((),d.2.1,d.2.2.1,(wrapK .i64 (d.2.2.2.1+(1:Int))),e0.2.2.2))
def spec_IsSystem_l2(k:Nat)(self:_→Option Bool)(d:((List Int)×((List DInode)×DQuota))):=
 (bif (decide (d.2.2.2<d.2.2.1))then(if 0≤d.2.2.2 then(d.2.1[d.2.2.2.toNat]?).bind fun v0=>
 (bif (v0.1==(1:Int))then(bif (v0.2.2.2.2.1==(0:Int))then(c_spec_l02Has k (d.1,d.2.2.2)).bind fun v1=>
 (bif (!v1)then some false else self (d.1,d.2.1,d.2.2.1,(wrapK .i64 (d.2.2.2+(1:Int)))))else self (d.1,d.2.1,d.2.2.1,(wrapK .i64 (d.2.2.2+(1:Int)))))else self (d.1,d.2.1,d.2.2.1,(wrapK .i64 (d.2.2.2+(1:Int)))))else none)else some true)
def spec_IsSystem_l3(k:Nat)(self:_→Option Bool)(d:(Unit×((List DProc)×(Int×(Int×DSystem))))):=
 let e0:=d.2.2.2.2
 (bif (decide (d.2.2.2.1<d.2.2.1))then(if 0≤d.2.2.2.1 then(d.2.1[d.2.2.2.1.toNat]?).bind fun v0=>
 (c_spec_IsCred k v0.1).bind fun v1=>
 (bif (!v1)then some false else(bif ((v0.2.length:Int) != (3:Int))then some false else iter k (spec_IsSystem_l1 k self) ((),d.2.1,d.2.2.1,d.2.2.2.1,v0.2,(v0.2.length:Int),(0:Int),e0)))else none)else(c_spec_l16Busy k e0).bind fun v2=>
 iter k (spec_IsSystem_l2 k) (v2,e0.1.2.2.1,(e0.1.2.2.1.length:Int),(0:Int)))
def spec_IsSystem(k:Nat)(x0:DSystem):Option Bool:=
 (c_spec_IsFS k x0.1).bind fun y1=>
 (bif (!y1)then some false else(bif ((x0.2.length:Int) != (4:Int))then some false else iter k (spec_IsSystem_l3 k) ((),x0.2,(x0.2.length:Int),(0:Int),x0)))
theorem spec_IsSystem_run(k:Nat)(x0:DSystem):c_spec_IsSystem (k+1) (x0)=spec_IsSystem k x0:=by kernel_rfl
def spec_l05Copy(k:Nat)(x0:(List DOpen)):Option (List DOpen):=
 (if(([]:List DOpen).length+x0.length)*24≤capBytes then some (([]:List DOpen)++x0)else none)
theorem spec_l05Copy_run(k:Nat)(x0:(List DOpen)):c_spec_l05Copy (k+1) (x0)=spec_l05Copy k x0:=by kernel_rfl
def spec_l07Copy(k:Nat)(x0:DInode):Option DInode:=
 (if(([]:List Int).length+x0.2.2.2.2.2.2.2.1.length)*8≤capBytes then(c_spec_l05Copy k x0.2.2.2.2.2.2.2.2.1).bind fun y1=>
 (c_spec_l05Copy k x0.2.2.2.2.2.2.2.2.2).bind fun y2=>
 some (x0.1,x0.2.1,x0.2.2.1,x0.2.2.2.1,x0.2.2.2.2.1,x0.2.2.2.2.2.1,x0.2.2.2.2.2.2.1,(([]:List Int)++x0.2.2.2.2.2.2.2.1),y1,y2)else none)
theorem spec_l07Copy_run(k:Nat)(x0:DInode):c_spec_l07Copy (k+1) (x0)=spec_l07Copy k x0:=by kernel_rfl
def spec_l08Copy_l1(k:Nat)(self:_→Option DFS)(d:(Unit×(Unit×((List DInode)×(Int×(Int×(DFS×DFS))))))):=
 let e0:=d.2.2.2.2
 (bif (decide (e0.1<d.2.2.2.1))then(if 0≤e0.1 then(d.2.2.1[e0.1.toNat]?).bind fun v0=>
 (c_spec_l07Copy k v0).bind fun v1=>
 (if(e0.2.1.2.2.1.length+([v1]:List DInode).length)*128≤capBytes then self ((),(),d.2.2.1,d.2.2.2.1,(wrapK .i64 (e0.1+(1:Int))),(e0.2.1.1,e0.2.1.2.1,(e0.2.1.2.2.1++([v1]:List DInode)),e0.2.1.2.2.2),e0.2.2)else none)else none)else some e0.2.1)
def spec_l08Copy(k:Nat)(x0:DFS):Option DFS:=
 (if(([]:List DQuota).length+x0.2.1.length)*16≤capBytes then(if(([]:List ByteArray).length+x0.2.2.2.length)*16≤capBytes then iter k (spec_l08Copy_l1 k) ((),(),x0.2.2.1,(x0.2.2.1.length:Int),(0:Int),(x0.1,(([]:List DQuota)++x0.2.1),([]:List DInode),(([]:List ByteArray)++x0.2.2.2)),((0:Int),([]:List DQuota),([]:List DInode),([]:List ByteArray)))else none)else none)
theorem spec_l08Copy_run(k:Nat)(x0:DFS):c_spec_l08Copy (k+1) (x0)=spec_l08Copy k x0:=by kernel_rfl
def spec_OrphansOf_l1(k:Nat)(self:_→Option (List Int))(d:((List Int)×((List DInode)×DQuota))):=
 (bif (decide (d.2.2.2<d.2.2.1))then(if 0≤d.2.2.2 then(d.2.1[d.2.2.2.toNat]?).bind fun v0=>
 (bif (v0.1 != (0:Int))then(bif (v0.2.2.2.2.1==(0:Int))then(if(d.1.length+([d.2.2.2]:List Int).length)*8≤capBytes then self ((d.1++([d.2.2.2]:List Int)),d.2.1,d.2.2.1,(wrapK .i64 (d.2.2.2+(1:Int))))else none)else self (d.1,d.2.1,d.2.2.1,(wrapK .i64 (d.2.2.2+(1:Int)))))else self (d.1,d.2.1,d.2.2.1,(wrapK .i64 (d.2.2.2+(1:Int)))))else none)else some d.1)
def spec_OrphansOf(k:Nat)(x0:DFS):Option (List Int):=
 (c_spec_IsFS k x0).bind fun y1=>
 (bif (!y1)then some ([]:List Int)else iter k (spec_OrphansOf_l1 k) (([]:List Int),x0.2.2.1,(x0.2.2.1.length:Int),(0:Int)))
theorem spec_OrphansOf_run(k:Nat)(x0:DFS):c_spec_OrphansOf (k+1) (x0)=spec_OrphansOf k x0:=by kernel_rfl
def spec_PadTo_l1(k:Nat)(self:_→Option ByteArray)(d:(Int×(List Int))):=
 (bif (decide ((d.2.length:Int)<d.1))then(if(d.2.length+([(0:Int)]:List Int).length)*1≤capBytes then self (d.1,(d.2++([(0:Int)]:List Int)))else none)else some (ofBytes d.2))
def spec_PadTo(k:Nat)(x0:ByteArray)(x1:Int):Option ByteArray:=
 (bif (decide ((100000:Int)<x1))then some (⟨#[]⟩:ByteArray)else iter k (spec_PadTo_l1 k) (x1,(bytesOf x0)))
theorem spec_PadTo_run(k:Nat)(x0:ByteArray)(x1:Int):c_spec_PadTo (k+1) (x0,x1)=spec_PadTo k x0 x1:=by kernel_rfl
def spec_l09Resize_l1(k:Nat)(self:_→Option DFS)(d:(Int×(Int×(Unit×(Unit×(Unit×(Int×(DInode×(DFS×DFS))))))))):=
 let e0:=d.2.2.2.2
 (bif (decide ((e0.2.2.1.2.2.2.2.2.2.2.1.length:Int)<e0.2.1))then(if(e0.2.2.1.2.2.2.2.2.2.2.1.length+([(-1:Int)]:List Int).length)*8≤capBytes then self (d.1,d.2.1,(),(),(),e0.2.1,(e0.2.2.1.1,e0.2.2.1.2.1,e0.2.2.1.2.2.1,e0.2.2.1.2.2.2.1,e0.2.2.1.2.2.2.2.1,e0.2.2.1.2.2.2.2.2.1,e0.2.2.1.2.2.2.2.2.2.1,(e0.2.2.1.2.2.2.2.2.2.2.1++([(-1:Int)]:List Int)),e0.2.2.1.2.2.2.2.2.2.2.2),e0.2.2.2.1,e0.2.2.2.2)else none)else(if 0≤d.1 then(if d.1<(e0.2.2.2.1.2.2.1.length:Int)then(e0.2.2.2.1.2.2.1[d.1.toNat]?).bind fun v0=>
 some (e0.2.2.2.1.1,e0.2.2.2.1.2.1,(e0.2.2.2.1.2.2.1.set d.1.toNat (e0.2.2.1.1,e0.2.2.1.2.1,e0.2.2.1.2.2.1,e0.2.2.1.2.2.2.1,e0.2.2.1.2.2.2.2.1,d.2.1,e0.2.2.1.2.2.2.2.2.2)),e0.2.2.2.1.2.2.2)else none)else none))
def spec_l09Resize_l2_j1(k:Nat)(self:(Int×(Int×(Unit×(Unit×(Unit×(Int×(DInode×(DFS×DFS))))))))→Option DFS)(d:(Int×(Int×(Unit×(Unit×(Unit×(Int×(DInode×(DFS×DFS)))))))))(v3:(Int×(Int×(Unit×(Unit×(Unit×(Int×(DInode×(DFS×DFS))))))))):Option DFS:=
 let e0:=v3.2.2.2.2
 (if 0≤(wrapK .i64 ((e0.2.2.1.2.2.2.2.2.2.2.1.length:Int)-(1:Int)))then(if(wrapK .i64 ((e0.2.2.1.2.2.2.2.2.2.2.1.length:Int)-(1:Int)))≤(e0.2.2.1.2.2.2.2.2.2.2.1.length:Int)then self (v3.1,v3.2.1,(),(),(),e0.2.1,(e0.2.2.1.1,e0.2.2.1.2.1,e0.2.2.1.2.2.1,e0.2.2.1.2.2.2.1,e0.2.2.1.2.2.2.2.1,e0.2.2.1.2.2.2.2.2.1,e0.2.2.1.2.2.2.2.2.2.1,(e0.2.2.1.2.2.2.2.2.2.2.1.take ((wrapK .i64 ((e0.2.2.1.2.2.2.2.2.2.2.1.length:Int)-(1:Int))).toNat-0)),e0.2.2.1.2.2.2.2.2.2.2.2),e0.2.2.2.1,e0.2.2.2.2)else none)else none)
def spec_l09Resize_l2_j2(k:Nat)(self:(Int×(Int×(Unit×(Unit×(Unit×(Int×(DInode×(DFS×DFS))))))))→Option DFS)(d:(Int×(Int×(Unit×(Unit×(Unit×(Int×(DInode×(DFS×DFS)))))))))(v9:(Int×(Int×(Unit×(Unit×(Unit×(Int×(DInode×(DFS×DFS))))))))):Option DFS:=
 let e0:=v9.2.2.2.2
 iter k (spec_l09Resize_l1 k) (v9.1,v9.2.1,(),(),(),e0.2.1,e0.2.2.1,e0.2.2.2.1,e0.2.2.2.2)
def spec_l09Resize_l2(k:Nat)(self:_→Option DFS)(d:(Int×(Int×(Unit×(Unit×(Unit×(Int×(DInode×(DFS×DFS))))))))):=
 let e0:=d.2.2.2.2
 let e1:=e0.2.2.2.2
 (bif (decide (e0.2.1<(e0.2.2.1.2.2.2.2.2.2.2.1.length:Int)))then(if 0≤(wrapK .i64 ((e0.2.2.1.2.2.2.2.2.2.2.1.length:Int)-(1:Int)))then(if(wrapK .i64 ((e0.2.2.1.2.2.2.2.2.2.2.1.length:Int)-(1:Int)))<(e0.2.2.1.2.2.2.2.2.2.2.1.length:Int)then(e0.2.2.1.2.2.2.2.2.2.2.1[(wrapK .i64 ((e0.2.2.1.2.2.2.2.2.2.2.1.length:Int)-(1:Int))).toNat]?).bind fun v0=>
 (joinK (R:=DFS) ((bif (v0 != (-1:Int))then(c_spec_PadTo k ((⟨#[]⟩:ByteArray),(32:Int))).bind fun v1=>
 (if 0≤v0 then(if v0<(e0.2.2.2.1.2.2.2.length:Int)then(e0.2.2.2.1.2.2.2[v0.toNat]?).bind fun v2=>
 some (.inl (d.1,d.2.1,(),(),(),e0.2.1,e0.2.2.1,(e0.2.2.2.1.1,e0.2.2.2.1.2.1,e0.2.2.2.1.2.2.1,(e0.2.2.2.1.2.2.2.set v0.toNat v1)),e1))else none)else none)else some (.inl (d.1,d.2.1,(),(),(),e0.2.1,e0.2.2.1,e0.2.2.2.1,e1)))) (spec_l09Resize_l2_j1 k self d))else none)else none)else(joinK (R:=DFS) ((bif (decide (d.2.1<e0.2.2.1.2.2.2.2.2.1))then(if((32:Int):Int)≠0 then(bif (decide ((0:Int)<(d.2.1.tmod (32:Int))))then(if 0≤(wrapK .i64 (e0.2.1-(1:Int)))then(if(wrapK .i64 (e0.2.1-(1:Int)))<(e0.2.2.1.2.2.2.2.2.2.2.1.length:Int)then(e0.2.2.1.2.2.2.2.2.2.2.1[(wrapK .i64 (e0.2.1-(1:Int))).toNat]?).bind fun v4=>
 (bif (v4 != (-1:Int))then(if 0≤(wrapK .i64 (e0.2.1-(1:Int)))then(if(wrapK .i64 (e0.2.1-(1:Int)))<(e0.2.2.1.2.2.2.2.2.2.2.1.length:Int)then(e0.2.2.1.2.2.2.2.2.2.2.1[(wrapK .i64 (e0.2.1-(1:Int))).toNat]?).bind fun v5=>
 (if 0≤v5 then(if v5<(e0.2.2.2.1.2.2.2.length:Int)then(e0.2.2.2.1.2.2.2[v5.toNat]?).bind fun v6=>
 (if((32:Int):Int)≠0 then(if 0≤(d.2.1.tmod (32:Int))then(if(d.2.1.tmod (32:Int))≤(v6.size:Int)then(c_spec_PadTo k ((v6.extract 0 ((d.2.1.tmod (32:Int)).toNat)),(32:Int))).bind fun v7=>
 (if 0≤v5 then(if v5<(e0.2.2.2.1.2.2.2.length:Int)then(e0.2.2.2.1.2.2.2[v5.toNat]?).bind fun v8=>
 some (.inl (d.1,d.2.1,(),(),(),e0.2.1,e0.2.2.1,(e0.2.2.2.1.1,e0.2.2.2.1.2.1,e0.2.2.2.1.2.2.1,(e0.2.2.2.1.2.2.2.set v5.toNat v7)),e1))else none)else none)else none)else none)else none)else none)else none)else none)else none)else some (.inl (d.1,d.2.1,(),(),(),e0.2.1,e0.2.2.1,e0.2.2.2.1,e1)))else none)else none)else some (.inl (d.1,d.2.1,(),(),(),e0.2.1,e0.2.2.1,e0.2.2.2.1,e1)))else none)else some (.inl (d.1,d.2.1,(),(),(),e0.2.1,e0.2.2.1,e0.2.2.2.1,e1)))) (spec_l09Resize_l2_j2 k self d)))
def spec_l09Resize(k:Nat)(x0:DFS)(x1:Int)(x2:Int):Option DFS:=
 (c_spec_l08Copy k x0).bind fun y1=>
 (if 0≤x1 then(if x1<(y1.2.2.1.length:Int)then(y1.2.2.1[x1.toNat]?).bind fun y2=>
 (y1.2.2.1[x1.toNat]?).bind fun y3=>
 (c_spec_l07Copy k y3).bind fun y4=>
 (c_spec_BlocksNeeded k x2).bind fun y5=>
 iter k (spec_l09Resize_l2 k) (x1,x2,(),(),(),y5,y4,y1,((0:Int),([]:List DQuota),([]:List DInode),([]:List ByteArray)))else none)else none)
theorem spec_l09Resize_run(k:Nat)(x0:DFS)(x1:Int)(x2:Int):c_spec_l09Resize (k+1) (x0,x1,x2)=spec_l09Resize k x0 x1 x2:=by kernel_rfl
def spec_l09Free(k:Nat)(x0:DFS)(x1:Int):Option DFS:=
 (c_spec_l09Resize k (x0,x1,(0:Int))).bind fun y1=>
 (if 0≤x1 then(if x1<(y1.2.2.1.length:Int)then(y1.2.2.1[x1.toNat]?).bind fun y2=>
 some (y1.1,y1.2.1,(y1.2.2.1.set x1.toNat ((0:Int),(0:Int),(0:Int),(0:Int),(0:Int),(0:Int),(0:Int),([]:List Int),([]:List DOpen),([]:List DOpen))),y1.2.2.2)else none)else none)
theorem spec_l09Free_run(k:Nat)(x0:DFS)(x1:Int):c_spec_l09Free (k+1) (x0,x1)=spec_l09Free k x0 x1:=by kernel_rfl
def spec_DropOrphans_l1(k:Nat)(self:_→Option DFS)(d:((List Int)×(Unit×(Unit×((List Int)×(Int×(Int×(DFS×DFS)))))))):=
 let e0:=d.2.2.2.2
 (bif (decide (e0.2.1<e0.1))then(if 0≤e0.2.1 then(if e0.2.1<(d.2.2.2.1.length:Int)then(d.2.2.2.1[e0.2.1.toNat]?).bind fun v0=>
 (c_spec_l02Has k (d.1,v0)).bind fun v1=>
 (bif (!v1)then(bif (v0 != (0:Int))then(c_spec_l09Free k (e0.2.2.1,v0)).bind fun v2=>
 self (d.1,(),(),d.2.2.2.1,e0.1,(wrapK .i64 (e0.2.1+(1:Int))),v2,e0.2.2.2)else self (d.1,(),(),d.2.2.2.1,e0.1,(wrapK .i64 (e0.2.1+(1:Int))),e0.2.2.1,e0.2.2.2))else self (d.1,(),(),d.2.2.2.1,e0.1,(wrapK .i64 (e0.2.1+(1:Int))),e0.2.2.1,e0.2.2.2))else none)else none)else some e0.2.2.1)
def spec_DropOrphans(k:Nat)(x0:DFS)(x1:(List Int)):Option DFS:=
 (c_spec_l08Copy k x0).bind fun y1=>
 (c_spec_OrphansOf k x0).bind fun y2=>
 iter k (spec_DropOrphans_l1 k) (x1,(),(),y2,(y2.length:Int),(0:Int),y1,((0:Int),([]:List DQuota),([]:List DInode),([]:List ByteArray)))
theorem spec_DropOrphans_run(k:Nat)(x0:DFS)(x1:(List Int)):c_spec_DropOrphans (k+1) (x0,x1)=spec_DropOrphans k x0 x1:=by kernel_rfl
def spec_l06Copy(k:Nat)(x0:DCred):Option DCred:=
 (if(([]:List Int).length+x0.2.2.length)*8≤capBytes then some (x0.1,x0.2.1,(([]:List Int)++x0.2.2))else none)
theorem spec_l06Copy_run(k:Nat)(x0:DCred):c_spec_l06Copy (k+1) (x0)=spec_l06Copy k x0:=by kernel_rfl
def spec_NewSystem_l1(k:Nat)(self:_→Option DSystem)(d:(Unit×(Unit×((List DCred)×(Int×(Int×(DSystem×DSystem))))))):=
 let e0:=d.2.2.2.2
 (bif (decide (e0.1<d.2.2.2.1))then(if 0≤e0.1 then(d.2.2.1[e0.1.toNat]?).bind fun v0=>
 (c_spec_l06Copy k v0).bind fun v1=>
 (if 0≤(3:Int)then(if(3:Int)≤(3:Int)then(if(3:Int)*24≤(capBytes:Int)then(if(e0.2.1.2.length+([(v1,(List.replicate (3:Int).toNat ((0:Int),(0:Int),(0:Int))))]:List DProc).length)*64≤capBytes then self ((),(),d.2.2.1,d.2.2.2.1,(wrapK .i64 (e0.1+(1:Int))),(e0.2.1.1,(e0.2.1.2++([(v1,(List.replicate (3:Int).toNat ((0:Int),(0:Int),(0:Int))))]:List DProc))),e0.2.2)else none)else none)else none)else none)else none)else(c_spec_IsSystem k e0.2.1).bind fun v2=>
 (bif (!v2)then some (((0:Int),([]:List DQuota),([]:List DInode),([]:List ByteArray)),([]:List DProc))else some e0.2.1))
def spec_NewSystem(k:Nat)(x0:DFS)(x1:(List DCred)):Option DSystem:=
 (c_spec_DropOrphans k (x0,([]:List Int))).bind fun y1=>
 iter k (spec_NewSystem_l1 k) ((),(),x1,(x1.length:Int),(0:Int),(y1,([]:List DProc)),(((0:Int),([]:List DQuota),([]:List DInode),([]:List ByteArray)),([]:List DProc)))
theorem spec_NewSystem_run(k:Nat)(x0:DFS)(x1:(List DCred)):c_spec_NewSystem (k+1) (x0,x1)=spec_NewSystem k x0 x1:=by kernel_rfl
def spec_PutNumber_l1(k:Nat)(self:_→Option ByteArray)(d:(Int×((List Int)×Int))):=
 (bif (decide ((0:Int)≤d.2.2))then(if((256:Int):Int)≠0 then(if 0≤d.2.2 then(if d.2.2<(d.2.1.length:Int)then(d.2.1[d.2.2.toNat]?).bind fun v0=>
 (if((256:Int):Int)≠0 then self ((wrapK .i64 (d.1.tdiv (256:Int))),(d.2.1.set d.2.2.toNat (wrapK .u8 (d.1.tmod (256:Int)))),(wrapK .i64 (d.2.2-(1:Int))))else none)else none)else none)else none)else some (ofBytes d.2.1))
def spec_PutNumber(k:Nat)(x0:Int)(x1:Int):Option ByteArray:=
 (c_spec_l01In k (x1,(1:Int),(6:Int))).bind fun y1=>
 (bif (!y1)then some (⟨#[]⟩:ByteArray)else(bif (decide (x0<(0:Int)))then some (⟨#[]⟩:ByteArray)else(if 0≤(wrapK .u64 ((8:Int)*(wrapK .u64 x1)))then(bif (decide ((wrapK .i64 ((1:Int)*2 ^(min (wrapK .u64 ((8:Int)*(wrapK .u64 x1))).toNat (IntKind.bits .i64))))≤x0))then some (⟨#[]⟩:ByteArray)else(if 0≤x1 then(if x1≤x1 then(if x1*1≤(capBytes:Int)then iter k (spec_PutNumber_l1 k) (x0,(List.replicate x1.toNat (0:Int)),(wrapK .i64 (x1-(1:Int))))else none)else none)else none))else none)))
theorem spec_PutNumber_run(k:Nat)(x0:Int)(x1:Int):c_spec_PutNumber (k+1) (x0,x1)=spec_PutNumber k x0 x1:=by kernel_rfl
def spec_l18Super_l1(k:Nat)(self:_→Option ByteArray)(d:(ByteArray×((List DQuota)×DQuota))):=
 (bif (decide (d.2.2.2<d.2.2.1))then(if 0≤d.2.2.2 then(d.2.1[d.2.2.2.toNat]?).bind fun v0=>
 (c_spec_PutNumber k (v0.1,(1:Int))).bind fun v1=>
 (if d.1.size+v1.size≤9223372036854775807 then(c_spec_PutNumber k (v0.2,(1:Int))).bind fun v2=>
 (if(d.1++v1).size+v2.size≤9223372036854775807 then self (((d.1++v1)++v2),d.2.1,d.2.2.1,(wrapK .i64 (d.2.2.2+(1:Int))))else none)else none)else none)else(c_spec_PadTo k (d.1,(32:Int))).bind fun v3=>
 some v3)
def spec_l18Super(k:Nat)(x0:DFS):Option ByteArray:=
 (c_spec_PutNumber k (x0.1,(4:Int))).bind fun y1=>
 (if(⟨#[70,83,89,83]⟩:ByteArray).size+y1.size≤9223372036854775807 then iter k (spec_l18Super_l1 k) (((⟨#[70,83,89,83]⟩:ByteArray)++y1),x0.2.1,(x0.2.1.length:Int),(0:Int))else none)
theorem spec_l18Super_run(k:Nat)(x0:DFS):c_spec_l18Super (k+1) (x0)=spec_l18Super k x0:=by kernel_rfl
def spec_CutAll_l1(k:Nat)(self:_→Option (List ByteArray))(d:(ByteArray×(Int×(List ByteArray)))):=
 (bif (decide (d.2.1<(d.1.size:Int)))then(if 0≤d.2.1 then(if d.2.1≤(d.1.size:Int)then(if(d.2.2.length+([(d.1.extract 0 d.2.1.toNat)]:List ByteArray).length)*16≤capBytes then(if 0≤d.2.1 then(if d.2.1≤(d.1.size:Int)then self ((d.1.extract d.2.1.toNat d.1.size),d.2.1,(d.2.2++([(d.1.extract 0 d.2.1.toNat)]:List ByteArray)))else none)else none)else none)else none)else none)else(bif (!(eqS d.1 (⟨#[]⟩:ByteArray)))then(if(d.2.2.length+([d.1]:List ByteArray).length)*16≤capBytes then some (d.2.2++([d.1]:List ByteArray))else none)else some d.2.2))
def spec_CutAll(k:Nat)(x0:ByteArray)(x1:Int):Option (List ByteArray):=
 (c_spec_l01In k (x1,(1:Int),(1000:Int))).bind fun y1=>
 (bif (!y1)then some ([]:List ByteArray)else iter k (spec_CutAll_l1 k) (x0,x1,([]:List ByteArray)))
theorem spec_CutAll_run(k:Nat)(x0:ByteArray)(x1:Int):c_spec_CutAll (k+1) (x0,x1)=spec_CutAll k x0 x1:=by kernel_rfl
def spec_PackAcl_l1(k:Nat)(self:_→Option ByteArray)(d:(ByteArray×((List DOpen)×DQuota))):=
 (bif (decide (d.2.2.2<d.2.2.1))then(if 0≤d.2.2.2 then(d.2.1[d.2.2.2.toNat]?).bind fun v0=>
 (c_spec_PutNumber k (v0.1,(1:Int))).bind fun v1=>
 (if d.1.size+v1.size≤9223372036854775807 then(c_spec_PutNumber k (v0.2.1,(1:Int))).bind fun v2=>
 (if(d.1++v1).size+v2.size≤9223372036854775807 then(c_spec_PutNumber k (v0.2.2,(1:Int))).bind fun v3=>
 (if((d.1++v1)++v2).size+v3.size≤9223372036854775807 then self ((((d.1++v1)++v2)++v3),d.2.1,d.2.2.1,(wrapK .i64 (d.2.2.2+(1:Int))))else none)else none)else none)else none)else(c_spec_PadTo k (d.1,(19:Int))).bind fun v4=>
 some v4)
def spec_PackAcl(k:Nat)(x0:(List DOpen)):Option ByteArray:=
 (c_spec_IsAcl k x0).bind fun y1=>
 (bif (!y1)then some (⟨#[]⟩:ByteArray)else(c_spec_PutNumber k ((x0.length:Int),(1:Int))).bind fun y2=>
 iter k (spec_PackAcl_l1 k) (y2,x0,(x0.length:Int),(0:Int)))
theorem spec_PackAcl_run(k:Nat)(x0:(List DOpen)):c_spec_PackAcl (k+1) (x0)=spec_PackAcl k x0:=by kernel_rfl
def spec_PackInode_l1(k:Nat)(self:_→Option ByteArray)(d:(Unit×(ByteArray×(Int×DInode)))):=
 let e0:=d.2.2.2.2
 let e1:=e0.2.2.2.2
 (bif (decide (d.2.2.1<(8:Int)))then(bif (decide (d.2.2.1<(e1.2.2.1.length:Int)))then(if 0≤d.2.2.1 then(e1.2.2.1[d.2.2.1.toNat]?).bind fun v0=>
 (c_spec_PutNumber k ((wrapK .i64 (v0+(1:Int))),(2:Int))).bind fun v1=>
 (if d.2.1.size+v1.size≤9223372036854775807 then self ((),(d.2.1++v1),(wrapK .i64 (d.2.2.1+(1:Int))),d.2.2.2)else none)else none)else(c_spec_PutNumber k ((wrapK .i64 ((-1:Int)+(1:Int))),(2:Int))).bind fun v2=>
 (if d.2.1.size+v2.size≤9223372036854775807 then self ((),(d.2.1++v2),(wrapK .i64 (d.2.2.1+(1:Int))),d.2.2.2)else none))else(c_spec_PackAcl k e1.2.2.2.1).bind fun v3=>
 (if d.2.1.size+v3.size≤9223372036854775807 then(c_spec_PackAcl k e1.2.2.2.2).bind fun v4=>
 (if(d.2.1++v3).size+v4.size≤9223372036854775807 then(c_spec_PadTo k (((d.2.1++v3)++v4),(96:Int))).bind fun v5=>
 some v5 else none)else none))
def spec_PackInode(k:Nat)(x0:DInode):Option ByteArray:=
 (c_spec_IsInode k x0).bind fun y1=>
 (bif (!y1)then some (⟨#[]⟩:ByteArray)else(c_spec_PutNumber k (x0.1,(1:Int))).bind fun y2=>
 (c_spec_PutNumber k (x0.2.1,(2:Int))).bind fun y3=>
 (if y2.size+y3.size≤9223372036854775807 then(c_spec_PutNumber k (x0.2.2.1,(1:Int))).bind fun y4=>
 (if(y2++y3).size+y4.size≤9223372036854775807 then(c_spec_PutNumber k (x0.2.2.2.1,(1:Int))).bind fun y5=>
 (if((y2++y3)++y4).size+y5.size≤9223372036854775807 then(c_spec_PutNumber k (x0.2.2.2.2.1,(2:Int))).bind fun y6=>
 (if(((y2++y3)++y4)++y5).size+y6.size≤9223372036854775807 then(c_spec_PutNumber k (x0.2.2.2.2.2.1,(2:Int))).bind fun y7=>
 (if((((y2++y3)++y4)++y5)++y6).size+y7.size≤9223372036854775807 then(c_spec_PutNumber k (x0.2.2.2.2.2.2.1,(4:Int))).bind fun y8=>
 (if(((((y2++y3)++y4)++y5)++y6)++y7).size+y8.size≤9223372036854775807 then iter k (spec_PackInode_l1 k) ((),((((((y2++y3)++y4)++y5)++y6)++y7)++y8),(0:Int),x0)else none)else none)else none)else none)else none)else none))
theorem spec_PackInode_run(k:Nat)(x0:DInode):c_spec_PackInode (k+1) (x0)=spec_PackInode k x0:=by kernel_rfl
def spec_l18Pack_l1(k:Nat)(self:_→Option (List ByteArray))(d:(Unit×((List ByteArray)×((List DInode)×(Int×(Int×DFS)))))):=
 let e0:=d.2.2.2.2
 (bif (decide (e0.1<d.2.2.2.1))then(if 0≤e0.1 then(d.2.2.1[e0.1.toNat]?).bind fun v0=>
 (c_spec_PackInode k v0).bind fun v1=>
 (c_spec_CutAll k (v1,(32:Int))).bind fun v2=>
 (if(d.2.1.length+v2.length)*16≤capBytes then self ((),(d.2.1++v2),d.2.2.1,d.2.2.2.1,(wrapK .i64 (e0.1+(1:Int))),e0.2)else none)else none)else(if(d.2.1.length+e0.2.2.2.2.length)*16≤capBytes then some (d.2.1++e0.2.2.2.2)else none))
def spec_l18Pack_l2(k:Nat)(self:_→Option (List ByteArray))(d:(Unit×((List ByteArray)×DFS))):=
 (bif (decide ((d.2.1.length:Int)<(70:Int)))then(c_spec_PadTo k ((⟨#[]⟩:ByteArray),(32:Int))).bind fun v0=>
 (if(d.2.1.length+([v0]:List ByteArray).length)*16≤capBytes then self ((),(d.2.1++([v0]:List ByteArray)),d.2.2)else none)else iter k (spec_l18Pack_l1 k) ((),d.2.1,d.2.2.2.2.1,(d.2.2.2.2.1.length:Int),(0:Int),d.2.2))
def spec_l18Pack(k:Nat)(x0:DFS):Option (List ByteArray):=
 (c_spec_l18Super k x0).bind fun y1=>
 iter k (spec_l18Pack_l2 k) ((),([y1]:List ByteArray),x0)
theorem spec_l18Pack_run(k:Nat)(x0:DFS):c_spec_l18Pack (k+1) (x0)=spec_l18Pack k x0:=by kernel_rfl
def spec_FormatFS(k:Nat)(x0:DFS):Option DDisk:=
 (c_spec_IsFS k x0).bind fun y1=>
 (bif (!y1)then some (([]:List ByteArray),([]:List DWrite))else(c_spec_l18Pack k x0).bind fun y2=>
 some (y2,([]:List DWrite)))
theorem spec_FormatFS_run(k:Nat)(x0:DFS):c_spec_FormatFS (k+1) (x0)=spec_FormatFS k x0:=by kernel_rfl
def spec_StartMachine(k:Nat)(x0:DFS)(x1:(List DCred)):Option (DMachine×Bool):=
 (c_spec_NewSystem k (x0,x1)).bind fun y1=>
 (bif ((y1.2.length:Int)==(0:Int))then some (((([]:List ByteArray),([]:List DWrite)),(0:Int),((0:Int),([]:List DQuota),([]:List DInode),([]:List ByteArray)),([]:List DProc)),false)else(c_spec_FormatFS k y1.1).bind fun y2=>
 some ((y2,(0:Int),y1),true))
theorem spec_StartMachine_run(k:Nat)(x0:DFS)(x1:(List DCred)):c_spec_StartMachine (k+1) (x0,x1)=spec_StartMachine k x0 x1:=by kernel_rfl
def laws_toQuota(k:Nat)(x0:DQuota):Option DQuota:=
 some (x0.1,x0.2)
theorem laws_toQuota_run(k:Nat)(x0:DQuota):c_laws_toQuota (k+1) (x0)=laws_toQuota k x0:=by kernel_rfl
def laws_toQuotaS_l1(k:Nat)(self:_→Option (List DQuota))(d:((List DQuota)×((List DQuota)×Int))):=
 (bif (decide (d.2.2<(d.1.length:Int)))then(if 0≤d.2.2 then(d.1[d.2.2.toNat]?).bind fun v0=>
 (c_laws_toQuota k v0).bind fun v1=>
 (if 0≤d.2.2 then(if d.2.2<(d.2.1.length:Int)then(d.2.1[d.2.2.toNat]?).bind fun v2=>
 self (d.1,(d.2.1.set d.2.2.toNat v1),(wrapK .i64 (d.2.2+(1:Int))))else none)else none)else none)else some d.2.1)
def laws_toQuotaS(k:Nat)(x0:(List DQuota)):Option (List DQuota):=
 (if 0≤(x0.length:Int)then(if(x0.length:Int)≤(x0.length:Int)then(if(x0.length:Int)*16≤(capBytes:Int)then iter k (laws_toQuotaS_l1 k) (x0,(List.replicate (x0.length:Int).toNat ((0:Int),(0:Int))),(0:Int))else none)else none)else none)
theorem laws_toQuotaS_run(k:Nat)(x0:(List DQuota)):c_laws_toQuotaS (k+1) (x0)=laws_toQuotaS k x0:=by kernel_rfl
def laws_toIntS_l1(k:Nat)(self:_→Option (List Int))(d:((List Int)×((List Int)×Int))):=
 (bif (decide (d.2.2<(d.1.length:Int)))then(if 0≤d.2.2 then(d.1[d.2.2.toNat]?).bind fun v0=>
 (if 0≤d.2.2 then(if d.2.2<(d.2.1.length:Int)then(d.2.1[d.2.2.toNat]?).bind fun v1=>
 self (d.1,(d.2.1.set d.2.2.toNat v0),(wrapK .i64 (d.2.2+(1:Int))))else none)else none)else none)else some d.2.1)
def laws_toIntS(k:Nat)(x0:(List Int)):Option (List Int):=
 (if 0≤(x0.length:Int)then(if(x0.length:Int)≤(x0.length:Int)then(if(x0.length:Int)*8≤(capBytes:Int)then iter k (laws_toIntS_l1 k) (x0,(List.replicate (x0.length:Int).toNat (0:Int)),(0:Int))else none)else none)else none)
theorem laws_toIntS_run(k:Nat)(x0:(List Int)):c_laws_toIntS (k+1) (x0)=laws_toIntS k x0:=by kernel_rfl
def laws_toAclEntry(k:Nat)(x0:DOpen):Option DOpen:=
 some (x0.1,x0.2.1,x0.2.2)
theorem laws_toAclEntry_run(k:Nat)(x0:DOpen):c_laws_toAclEntry (k+1) (x0)=laws_toAclEntry k x0:=by kernel_rfl
def laws_toAclEntryS_l1(k:Nat)(self:_→Option (List DOpen))(d:((List DOpen)×((List DOpen)×Int))):=
 (bif (decide (d.2.2<(d.1.length:Int)))then(if 0≤d.2.2 then(d.1[d.2.2.toNat]?).bind fun v0=>
 (c_laws_toAclEntry k v0).bind fun v1=>
 (if 0≤d.2.2 then(if d.2.2<(d.2.1.length:Int)then(d.2.1[d.2.2.toNat]?).bind fun v2=>
 self (d.1,(d.2.1.set d.2.2.toNat v1),(wrapK .i64 (d.2.2+(1:Int))))else none)else none)else none)else some d.2.1)
def laws_toAclEntryS(k:Nat)(x0:(List DOpen)):Option (List DOpen):=
 (if 0≤(x0.length:Int)then(if(x0.length:Int)≤(x0.length:Int)then(if(x0.length:Int)*24≤(capBytes:Int)then iter k (laws_toAclEntryS_l1 k) (x0,(List.replicate (x0.length:Int).toNat ((0:Int),(0:Int),(0:Int))),(0:Int))else none)else none)else none)
theorem laws_toAclEntryS_run(k:Nat)(x0:(List DOpen)):c_laws_toAclEntryS (k+1) (x0)=laws_toAclEntryS k x0:=by kernel_rfl
def laws_toInode(k:Nat)(x0:DInode):Option DInode:=
 (c_laws_toIntS k x0.2.2.2.2.2.2.2.1).bind fun y1=>
 (c_laws_toAclEntryS k x0.2.2.2.2.2.2.2.2.1).bind fun y2=>
 (c_laws_toAclEntryS k x0.2.2.2.2.2.2.2.2.2).bind fun y3=>
 some (x0.1,x0.2.1,x0.2.2.1,x0.2.2.2.1,x0.2.2.2.2.1,x0.2.2.2.2.2.1,x0.2.2.2.2.2.2.1,y1,y2,y3)
theorem laws_toInode_run(k:Nat)(x0:DInode):c_laws_toInode (k+1) (x0)=laws_toInode k x0:=by kernel_rfl
def laws_toInodeS_l1(k:Nat)(self:_→Option (List DInode))(d:((List DInode)×((List DInode)×Int))):=
 (bif (decide (d.2.2<(d.1.length:Int)))then(if 0≤d.2.2 then(d.1[d.2.2.toNat]?).bind fun v0=>
 (c_laws_toInode k v0).bind fun v1=>
 (if 0≤d.2.2 then(if d.2.2<(d.2.1.length:Int)then(d.2.1[d.2.2.toNat]?).bind fun v2=>
 self (d.1,(d.2.1.set d.2.2.toNat v1),(wrapK .i64 (d.2.2+(1:Int))))else none)else none)else none)else some d.2.1)
def laws_toInodeS(k:Nat)(x0:(List DInode)):Option (List DInode):=
 (if 0≤(x0.length:Int)then(if(x0.length:Int)≤(x0.length:Int)then(if(x0.length:Int)*128≤(capBytes:Int)then iter k (laws_toInodeS_l1 k) (x0,(List.replicate (x0.length:Int).toNat ((0:Int),(0:Int),(0:Int),(0:Int),(0:Int),(0:Int),(0:Int),([]:List Int),([]:List DOpen),([]:List DOpen))),(0:Int))else none)else none)else none)
theorem laws_toInodeS_run(k:Nat)(x0:(List DInode)):c_laws_toInodeS (k+1) (x0)=laws_toInodeS k x0:=by kernel_rfl
def laws_toStringS_l1(k:Nat)(self:_→Option (List ByteArray))(d:((List ByteArray)×((List ByteArray)×Int))):=
 (bif (decide (d.2.2<(d.1.length:Int)))then(if 0≤d.2.2 then(d.1[d.2.2.toNat]?).bind fun v0=>
 (if 0≤d.2.2 then(if d.2.2<(d.2.1.length:Int)then(d.2.1[d.2.2.toNat]?).bind fun v1=>
 self (d.1,(d.2.1.set d.2.2.toNat v0),(wrapK .i64 (d.2.2+(1:Int))))else none)else none)else none)else some d.2.1)
def laws_toStringS(k:Nat)(x0:(List ByteArray)):Option (List ByteArray):=
 (if 0≤(x0.length:Int)then(if(x0.length:Int)≤(x0.length:Int)then(if(x0.length:Int)*16≤(capBytes:Int)then iter k (laws_toStringS_l1 k) (x0,(List.replicate (x0.length:Int).toNat ByteArray.empty),(0:Int))else none)else none)else none)
theorem laws_toStringS_run(k:Nat)(x0:(List ByteArray)):c_laws_toStringS (k+1) (x0)=laws_toStringS k x0:=by kernel_rfl
def laws_toFS(k:Nat)(x0:DFS):Option DFS:=
 (c_laws_toQuotaS k x0.2.1).bind fun y1=>
 (c_laws_toInodeS k x0.2.2.1).bind fun y2=>
 (c_laws_toStringS k x0.2.2.2).bind fun y3=>
 some (x0.1,y1,y2,y3)
theorem laws_toFS_run(k:Nat)(x0:DFS):c_laws_toFS (k+1) (x0)=laws_toFS k x0:=by kernel_rfl
def laws_toCred(k:Nat)(x0:DCred):Option DCred:=
 (c_laws_toIntS k x0.2.2).bind fun y1=>
 some (x0.1,x0.2.1,y1)
theorem laws_toCred_run(k:Nat)(x0:DCred):c_laws_toCred (k+1) (x0)=laws_toCred k x0:=by kernel_rfl
def laws_toCredS_l1(k:Nat)(self:_→Option (List DCred))(d:((List DCred)×((List DCred)×Int))):=
 (bif (decide (d.2.2<(d.1.length:Int)))then(if 0≤d.2.2 then(d.1[d.2.2.toNat]?).bind fun v0=>
 (c_laws_toCred k v0).bind fun v1=>
 (if 0≤d.2.2 then(if d.2.2<(d.2.1.length:Int)then(d.2.1[d.2.2.toNat]?).bind fun v2=>
 self (d.1,(d.2.1.set d.2.2.toNat v1),(wrapK .i64 (d.2.2+(1:Int))))else none)else none)else none)else some d.2.1)
def laws_toCredS(k:Nat)(x0:(List DCred)):Option (List DCred):=
 (if 0≤(x0.length:Int)then(if(x0.length:Int)≤(x0.length:Int)then(if(x0.length:Int)*40≤(capBytes:Int)then iter k (laws_toCredS_l1 k) (x0,(List.replicate (x0.length:Int).toNat ((0:Int),(0:Int),([]:List Int))),(0:Int))else none)else none)else none)
theorem laws_toCredS_run(k:Nat)(x0:(List DCred)):c_laws_toCredS (k+1) (x0)=laws_toCredS k x0:=by kernel_rfl
def slices_Equal_int_int_l1(k:Nat)(self:_→Option Bool)(d:((List Int)×((List Int)×DQuota))):=
 (bif (decide (d.2.2.2<d.2.2.1))then(if 0≤d.2.2.2 then(d.1[d.2.2.2.toNat]?).bind fun v0=>
 (if 0≤d.2.2.2 then(d.2.1[d.2.2.2.toNat]?).bind fun v1=>
 (bif (v0 != v1)then some false else self (d.1,d.2.1,d.2.2.1,(wrapK .i64 (d.2.2.2+(1:Int)))))else none)else none)else some true)
def slices_Equal_int_int(k:Nat)(x0:(List Int))(x1:(List Int)):Option Bool:=
 (bif ((x0.length:Int) != (x1.length:Int))then some false else iter k (slices_Equal_int_int_l1 k) (x0,x1,(x0.length:Int),(0:Int)))
theorem slices_Equal_int_int_run(k:Nat)(x0:(List Int))(x1:(List Int)):c_slices_Equal_int_int (k+1) (x0,x1)=slices_Equal_int_int k x0 x1:=by kernel_rfl
def slices_Equal_impl_AclEntry_impl_AclEntry_l1(k:Nat)(self:_→Option Bool)(d:((List DOpen)×((List DOpen)×DQuota))):=
 (bif (decide (d.2.2.2<d.2.2.1))then(if 0≤d.2.2.2 then(d.1[d.2.2.2.toNat]?).bind fun v0=>
 (if 0≤d.2.2.2 then(d.2.1[d.2.2.2.toNat]?).bind fun v1=>
 (bif (!((v0.1==v1.1)&&((v0.2.1==v1.2.1)&&(v0.2.2==v1.2.2))))then some false else self (d.1,d.2.1,d.2.2.1,(wrapK .i64 (d.2.2.2+(1:Int)))))else none)else none)else some true)
def slices_Equal_impl_AclEntry_impl_AclEntry(k:Nat)(x0:(List DOpen))(x1:(List DOpen)):Option Bool:=
 (bif ((x0.length:Int) != (x1.length:Int))then some false else iter k (slices_Equal_impl_AclEntry_impl_AclEntry_l1 k) (x0,x1,(x0.length:Int),(0:Int)))
theorem slices_Equal_impl_AclEntry_impl_AclEntry_run(k:Nat)(x0:(List DOpen))(x1:(List DOpen)):c_slices_Equal_impl_AclEntry_impl_AclEntry (k+1) (x0,x1)=slices_Equal_impl_AclEntry_impl_AclEntry k x0 x1:=by kernel_rfl
def impl_SameInode(k:Nat)(x0:DInode)(x1:DInode):Option Bool:=
 (bif (x0.1==x1.1)then(bif (x0.2.1==x1.2.1)then(bif (x0.2.2.1==x1.2.2.1)then(bif (x0.2.2.2.1==x1.2.2.2.1)then(bif (x0.2.2.2.2.1==x1.2.2.2.2.1)then(bif (x0.2.2.2.2.2.1==x1.2.2.2.2.2.1)then(bif (x0.2.2.2.2.2.2.1==x1.2.2.2.2.2.2.1)then(c_slices_Equal_int_int k (x0.2.2.2.2.2.2.2.1,x1.2.2.2.2.2.2.2.1)).bind fun y1=>
 (bif y1 then(c_slices_Equal_impl_AclEntry_impl_AclEntry k (x0.2.2.2.2.2.2.2.2.1,x1.2.2.2.2.2.2.2.2.1)).bind fun y2=>
 (bif y2 then(c_slices_Equal_impl_AclEntry_impl_AclEntry k (x0.2.2.2.2.2.2.2.2.2,x1.2.2.2.2.2.2.2.2.2)).bind fun y3=>
 some y3 else some false)else some false)else some false)else some false)else some false)else some false)else some false)else some false)else some false)
theorem impl_SameInode_run(k:Nat)(x0:DInode)(x1:DInode):c_impl_SameInode (k+1) (x0,x1)=impl_SameInode k x0 x1:=by kernel_rfl
def slices_Index_int_int_l1(k:Nat)(self:_→Option Int)(d:((List Int)×DOpen)):=
 (bif (decide (d.2.2.2<d.2.2.1))then(if 0≤d.2.2.2 then(d.1[d.2.2.2.toNat]?).bind fun v0=>
 (bif (d.2.1==v0)then some d.2.2.2 else self (d.1,d.2.1,d.2.2.1,(wrapK .i64 (d.2.2.2+(1:Int)))))else none)else some (-1:Int))
def slices_Index_int_int(k:Nat)(x0:(List Int))(x1:Int):Option Int:=
 iter k (slices_Index_int_int_l1 k) (x0,x1,(x0.length:Int),(0:Int))
theorem slices_Index_int_int_run(k:Nat)(x0:(List Int))(x1:Int):c_slices_Index_int_int (k+1) (x0,x1)=slices_Index_int_int k x0 x1:=by kernel_rfl
def slices_Contains_int_int(k:Nat)(x0:(List Int))(x1:Int):Option Bool:=
 (c_slices_Index_int_int k (x0,x1)).bind fun y1=>
 some (decide ((0:Int)≤y1))
theorem slices_Contains_int_int_run(k:Nat)(x0:(List Int))(x1:Int):c_slices_Contains_int_int (k+1) (x0,x1)=slices_Contains_int_int k x0 x1:=by kernel_rfl
def impl_isUser(k:Nat)(x0:Int):Option Bool:=
 (bif (decide ((0:Int)≤x0))then some (decide (x0<(4:Int)))else some false)
theorem impl_isUser_run(k:Nat)(x0:Int):c_impl_isUser (k+1) (x0)=impl_isUser k x0:=by kernel_rfl
def impl_isMode(k:Nat)(x0:Int):Option Bool:=
 (bif (decide ((0:Int)≤x0))then some (decide (x0≤(2047:Int)))else some false)
theorem impl_isMode_run(k:Nat)(x0:Int):c_impl_isMode (k+1) (x0)=impl_isMode k x0:=by kernel_rfl
def impl_BlocksNeeded(k:Nat)(x0:Int):Option Int:=
 (bif (decide (x0≤(0:Int)))then some (0:Int)else(if((32:Int):Int)≠0 then some (wrapK .i64 ((wrapK .i64 ((wrapK .i64 (x0-(1:Int))).tdiv (32:Int)))+(1:Int)))else none))
theorem impl_BlocksNeeded_run(k:Nat)(x0:Int):c_impl_BlocksNeeded (k+1) (x0)=impl_BlocksNeeded k x0:=by kernel_rfl
def cmp_Or_int_l1(k:Nat)(self:_→Option Int)(d:(Int×((List Int)×DQuota))):=
 (bif (decide (d.2.2.2<d.2.2.1))then(if 0≤d.2.2.2 then(d.2.1[d.2.2.2.toNat]?).bind fun v0=>
 (bif (v0 != d.1)then some v0 else self (d.1,d.2.1,d.2.2.1,(wrapK .i64 (d.2.2.2+(1:Int)))))else none)else some d.1)
def cmp_Or_int(k:Nat)(x0:(List Int)):Option Int:=
 iter k (cmp_Or_int_l1 k) ((0:Int),x0,(x0.length:Int),(0:Int))
theorem cmp_Or_int_run(k:Nat)(x0:(List Int)):c_cmp_Or_int (k+1) (x0)=cmp_Or_int k x0:=by kernel_rfl
def cmp_isNaN_int(k:Nat)(x0:Int):Option Bool:=
 some (x0 != x0)
theorem cmp_isNaN_int_run(k:Nat)(x0:Int):c_cmp_isNaN_int (k+1) (x0)=cmp_isNaN_int k x0:=by kernel_rfl
def cmp_Compare_int(k:Nat)(x0:Int)(x1:Int):Option Int:=
 (c_cmp_isNaN_int k x0).bind fun y1=>
 (c_cmp_isNaN_int k x1).bind fun y2=>
 (bif y1 then(bif y2 then some (0:Int)else some (-1:Int))else(bif y2 then some (1:Int)else(bif (decide (x0<x1))then some (-1:Int)else(bif (decide (x1<x0))then some (1:Int)else some (0:Int)))))
theorem cmp_Compare_int_run(k:Nat)(x0:Int)(x1:Int):c_cmp_Compare_int (k+1) (x0,x1)=cmp_Compare_int k x0 x1:=by kernel_rfl
def impl_IsAcl_l1(k:Nat)(self:_→Option Bool)(d:((List DOpen)×((List DOpen)×DQuota))):=
 (bif (decide (d.2.2.2<d.2.2.1))then(if 0≤d.2.2.2 then(d.2.1[d.2.2.2.toNat]?).bind fun v0=>
 (bif (decide (v0.2.2<(0:Int)))then some false else(bif (decide ((7:Int)<v0.2.2))then some false else(joinK (R:=Bool) ((bif (v0.1==(1:Int))then(bif (v0.1==(1:Int))then(c_impl_isUser k v0.2.1).bind fun v1=>
 (bif (!v1)then((some false).map .inr)else some (.inl (d.1,d.2.2.2,(),d.2.1,d.2.2.1,d.2.2.2,v0)))else(bif (v0.1==(3:Int))then(bif (v0.2.1 != (0:Int))then((some false).map .inr)else some (.inl (d.1,d.2.2.2,(),d.2.1,d.2.2.1,d.2.2.2,v0)))else((some false).map .inr)))else(bif (v0.1==(2:Int))then(c_impl_isUser k v0.2.1).bind fun v2=>
 (bif (!v2)then((some false).map .inr)else some (.inl (d.1,d.2.2.2,(),d.2.1,d.2.2.1,d.2.2.2,v0)))else(bif (v0.1==(3:Int))then(bif (v0.2.1 != (0:Int))then((some false).map .inr)else some (.inl (d.1,d.2.2.2,(),d.2.1,d.2.2.1,d.2.2.2,v0)))else((some false).map .inr))))) fun(v3:((List DOpen)×(Int×(Unit×((List DOpen)×(Int×(Int×DOpen)))))))=>let e0:=v3.2.2.2.2;(bif (decide ((0:Int)<v3.2.1))then(if 0≤(wrapK .i64 (v3.2.1-(1:Int)))then(v3.1[(wrapK .i64 (v3.2.1-(1:Int))).toNat]?).bind fun v4=>
 (c_cmp_Compare_int k (v4.1,e0.2.2.1)).bind fun v5=>
 (if 0≤(wrapK .i64 (v3.2.1-(1:Int)))then(v3.1[(wrapK .i64 (v3.2.1-(1:Int))).toNat]?).bind fun v6=>
 (c_cmp_Compare_int k (v6.2.1,e0.2.2.2.1)).bind fun v7=>
 (c_cmp_Or_int k ([v5,v7]:List Int)).bind fun v8=>
 (bif (decide ((0:Int)≤v8))then some false else self (v3.1,v3.2.2.2.1,e0.1,(wrapK .i64 (e0.2.1+(1:Int)))))else none)else none)else self (v3.1,v3.2.2.2.1,e0.1,(wrapK .i64 (e0.2.1+(1:Int))))))))else none)else(bif ((d.1.length:Int)==(0:Int))then some true else(if 0≤(wrapK .i64 ((d.1.length:Int)-(1:Int)))then(d.1[(wrapK .i64 ((d.1.length:Int)-(1:Int))).toNat]?).bind fun v9=>
 some (v9.1==(3:Int))else none)))
def impl_IsAcl(k:Nat)(x0:(List DOpen)):Option Bool:=
 (bif (decide ((6:Int)<(x0.length:Int)))then some false else iter k (impl_IsAcl_l1 k) (x0,x0,(x0.length:Int),(0:Int)))
theorem impl_IsAcl_run(k:Nat)(x0:(List DOpen)):c_impl_IsAcl (k+1) (x0)=impl_IsAcl k x0:=by kernel_rfl
def impl_IsInode_l1(k:Nat)(self:_→Option Bool)(d:(Unit×((List Int)×(Int×(Int×DInode))))):=
 let e0:=d.2.2.2.2
 (bif (decide (d.2.2.2.1<d.2.2.1))then(if 0≤d.2.2.2.1 then(d.2.1[d.2.2.2.1.toNat]?).bind fun v0=>
 (bif (v0 != (-1:Int))then(bif (decide (v0<(0:Int)))then some false else(bif (decide ((999:Int)<v0))then some false else(if 0≤d.2.2.2.1 then(if d.2.2.2.1≤(e0.2.2.2.2.2.2.2.1.length:Int)then(c_slices_Contains_int_int k (((e0.2.2.2.2.2.2.2.1.take d.2.2.2.1.toNat).drop 0),v0)).bind fun v1=>
 (bif v1 then some false else self ((),d.2.1,d.2.2.1,(wrapK .i64 (d.2.2.2.1+(1:Int))),e0))else none)else none)))else self ((),d.2.1,d.2.2.1,(wrapK .i64 (d.2.2.2.1+(1:Int))),e0))else none)else(bif (e0.1==(2:Int))then some true else(bif ((e0.2.2.2.2.2.2.2.2.2.length:Int)==(0:Int))then some ((intBits .and .i64 e0.2.1 (512:Int))==(0:Int))else some false)))
def impl_IsInode(k:Nat)(x0:DInode):Option Bool:=
 (joinK (R:=Bool) ((bif (x0.1==(0:Int))then(c_impl_SameInode k (x0,((0:Int),(0:Int),(0:Int),(0:Int),(0:Int),(0:Int),(0:Int),([]:List Int),([]:List DOpen),([]:List DOpen)))).bind fun y2=>
 ((some y2).map .inr)else(bif (x0.1==(1:Int))then(bif (x0.1==(1:Int))then some (.inl ((),x0))else((some false).map .inr))else(bif (x0.1==(2:Int))then some (.inl ((),x0))else((some false).map .inr))))) fun(d1:(Unit×DInode))=>let e0:=d1.2.2.2.2;let e1:=e0.2.2.2.2;(c_impl_isMode k d1.2.2.1).bind fun y3=>
 (bif (!y3)then some false else(c_impl_isUser k d1.2.2.2.1).bind fun y4=>
 (bif (!y4)then some false else(c_impl_isUser k e0.1).bind fun y5=>
 (bif (!y5)then some false else(bif (decide (e0.2.1<(0:Int)))then some false else(bif (decide ((1000:Int)<e0.2.1))then some false else(bif (decide (e0.2.2.1<(0:Int)))then some false else(bif (decide ((256:Int)<e0.2.2.1))then some false else(bif (decide (e0.2.2.2.1<(0:Int)))then some false else(bif (decide ((1000000000:Int)<e0.2.2.2.1))then some false else(c_impl_BlocksNeeded k e0.2.2.1).bind fun y6=>
 (bif ((e1.1.length:Int) != y6)then some false else(c_impl_IsAcl k e1.2.1).bind fun y7=>
 (bif (!y7)then some false else(c_impl_IsAcl k e1.2.2).bind fun y8=>
 (bif (!y8)then some false else iter k (impl_IsInode_l1 k) ((),e1.1,(e1.1.length:Int),(0:Int),d1.2))))))))))))))
theorem impl_IsInode_run(k:Nat)(x0:DInode):c_impl_IsInode (k+1) (x0)=impl_IsInode k x0:=by kernel_rfl
def impl_BlockOwner(k:Nat)(x0:Int):Option Int:=
 (bif (decide (x0<(0:Int)))then some (-1:Int)else(bif (decide ((56:Int)≤x0))then some (-1:Int)else(if((14:Int):Int)≠0 then some (wrapK .i64 (x0.tdiv (14:Int)))else none)))
theorem impl_BlockOwner_run(k:Nat)(x0:Int):c_impl_BlockOwner (k+1) (x0)=impl_BlockOwner k x0:=by kernel_rfl
def impl_IsZeroes_l1(k:Nat)(self:_→Option Bool)(d:(ByteArray×DQuota)):=
 (bif (decide (d.2.2<d.2.1))then(if 0≤d.2.2 then((d.1[d.2.2.toNat]?.map fun v0=>(v0.toNat:Int))).bind fun v1=>
 (bif (v1 != (0:Int))then some false else self (d.1,d.2.1,(wrapK .i64 (d.2.2+(1:Int)))))else none)else some true)
def impl_IsZeroes(k:Nat)(x0:ByteArray):Option Bool:=
 iter k (impl_IsZeroes_l1 k) (x0,(x0.size:Int),(0:Int))
theorem impl_IsZeroes_run(k:Nat)(x0:ByteArray):c_impl_IsZeroes (k+1) (x0)=impl_IsZeroes k x0:=by kernel_rfl
def impl_IsFS_l1(k:Nat)(a0:_→Option Bool)(self:_→Option Bool)(d:(Unit×(Unit×(Unit×((List DInode)×(Int×(Int×((List Int)×(Int×(Int×(DInode×((List Bool)×DFS)))))))))))):=
 let e0:=d.2.2.2.2
 let e1:=e0.2.2.2.2
 (bif (decide (e1.1<e0.2.2.2.1))then(if 0≤e1.1 then(e0.2.2.1[e1.1.toNat]?).bind fun v0=>
 (bif (v0==(-1:Int))then self ((),(),(),d.2.2.2.1,e0.1,e0.2.1,e0.2.2.1,e0.2.2.2.1,(wrapK .i64 (e1.1+(1:Int))),e1.2.1,e1.2.2.1,e1.2.2.2)else(c_impl_BlockOwner k v0).bind fun v1=>
 (bif (v1 != e1.2.1.2.2.1)then some false else(if 0≤v0 then(if v0<(56:Int)then(e1.2.2.1[v0.toNat]?).bind fun v2=>
 (bif v2 then some false else(if 0≤v0 then(if v0<(56:Int)then(e1.2.2.1[v0.toNat]?).bind fun v3=>
 (bif (decide ((wrapK .i64 (e1.2.1.2.2.2.2.2.1-(wrapK .i64 (e1.1*(32:Int)))))<(32:Int)))then(if 0≤v0 then(e1.2.2.2.2.2.2[v0.toNat]?).bind fun v4=>
 (if 0≤(wrapK .i64 (e1.2.1.2.2.2.2.2.1-(wrapK .i64 (e1.1*(32:Int)))))then(if(wrapK .i64 (e1.2.1.2.2.2.2.2.1-(wrapK .i64 (e1.1*(32:Int)))))≤(v4.size:Int)then(c_impl_IsZeroes k (v4.extract ((wrapK .i64 (e1.2.1.2.2.2.2.2.1-(wrapK .i64 (e1.1*(32:Int))))).toNat) v4.size)).bind fun v5=>
 (bif (!v5)then some false else self ((),(),(),d.2.2.2.1,e0.1,e0.2.1,e0.2.2.1,e0.2.2.2.1,(wrapK .i64 (e1.1+(1:Int))),e1.2.1,(e1.2.2.1.set v0.toNat true),e1.2.2.2))else none)else none)else none)else self ((),(),(),d.2.2.2.1,e0.1,e0.2.1,e0.2.2.1,e0.2.2.2.1,(wrapK .i64 (e1.1+(1:Int))),e1.2.1,(e1.2.2.1.set v0.toNat true),e1.2.2.2))else none)else none))else none)else none)))else none)else a0 ((),(),d.2.2.2.1,e0.1,(wrapK .i64 (e0.2.1+(1:Int))),e1.2.2.1,e1.2.2.2))
def impl_IsFS_l2(k:Nat)(self:_→Option Bool)(d:(Unit×(Unit×((List ByteArray)×(Int×(Int×((List Bool)×DFS))))))):=
 let e0:=d.2.2.2.2
 (bif (decide (e0.1<d.2.2.2.1))then(if 0≤e0.1 then(d.2.2.1[e0.1.toNat]?).bind fun v0=>
 (if 0≤e0.1 then(if e0.1<(56:Int)then(e0.2.1[e0.1.toNat]?).bind fun v1=>
 (bif (!v1)then(c_impl_IsZeroes k v0).bind fun v2=>
 (bif (!v2)then some false else self ((),(),d.2.2.1,d.2.2.2.1,(wrapK .i64 (e0.1+(1:Int))),e0.2.1,e0.2.2))else self ((),(),d.2.2.1,d.2.2.2.1,(wrapK .i64 (e0.1+(1:Int))),e0.2.1,e0.2.2))else none)else none)else none)else(if 0≤(0:Int)then(e0.2.2.2.2.1[(0:Int).toNat]?).bind fun v3=>
 some (v3.1==(2:Int))else none))
def impl_IsFS_l3(k:Nat)(self:_→Option Bool)(d:(Unit×(Unit×((List DInode)×(Int×(Int×((List Bool)×DFS))))))):=
 let e0:=d.2.2.2.2
 (bif (decide (e0.1<d.2.2.2.1))then(if 0≤e0.1 then(d.2.2.1[e0.1.toNat]?).bind fun v0=>
 (c_impl_IsInode k v0).bind fun v1=>
 (bif (!v1)then some false else iter k (impl_IsFS_l1 k self) ((),(),(),d.2.2.1,d.2.2.2.1,e0.1,v0.2.2.2.2.2.2.2.1,(v0.2.2.2.2.2.2.2.1.length:Int),(0:Int),v0,e0.2.1,e0.2.2))else none)else iter k (impl_IsFS_l2 k) ((),(),e0.2.2.2.2.2,(e0.2.2.2.2.2.length:Int),(0:Int),e0.2.1,e0.2.2))
def impl_IsFS_l4(k:Nat)(self:_→Option Bool)(d:(Unit×((List ByteArray)×(Int×(Int×DFS))))):=
 let e0:=d.2.2.2.2
 (bif (decide (d.2.2.2.1<d.2.2.1))then(if 0≤d.2.2.2.1 then(d.2.1[d.2.2.2.1.toNat]?).bind fun v0=>
 (bif ((v0.size:Int) != (32:Int))then some false else self ((),d.2.1,d.2.2.1,(wrapK .i64 (d.2.2.2.1+(1:Int))),e0))else none)else iter k (impl_IsFS_l3 k) ((),(),e0.2.2.1,(e0.2.2.1.length:Int),(0:Int),(List.replicate 56 false),e0))
def impl_IsFS_l5(k:Nat)(self:_→Option Bool)(d:(Unit×((List DQuota)×(Int×(Int×DFS))))):=
 let e0:=d.2.2.2.2
 (bif (decide (d.2.2.2.1<d.2.2.1))then(if 0≤d.2.2.2.1 then(d.2.1[d.2.2.2.1.toNat]?).bind fun v0=>
 (bif (decide (v0.1<(0:Int)))then some false else(bif (decide ((5:Int)<v0.1))then some false else(bif (decide (v0.2<(0:Int)))then some false else(bif (decide ((14:Int)<v0.2))then some false else self ((),d.2.1,d.2.2.1,(wrapK .i64 (d.2.2.2.1+(1:Int))),e0)))))else none)else iter k (impl_IsFS_l4 k) ((),e0.2.2.2,(e0.2.2.2.length:Int),(0:Int),e0))
def impl_IsFS(k:Nat)(x0:DFS):Option Bool:=
 (bif (decide (x0.1<(0:Int)))then some false else(bif (decide ((1000000000:Int)<x0.1))then some false else(bif ((x0.2.1.length:Int) != (4:Int))then some false else(bif ((x0.2.2.1.length:Int) != (20:Int))then some false else(bif ((x0.2.2.2.length:Int) != (56:Int))then some false else iter k (impl_IsFS_l5 k) ((),x0.2.1,(x0.2.1.length:Int),(0:Int),x0))))))
theorem impl_IsFS_run(k:Nat)(x0:DFS):c_impl_IsFS (k+1) (x0)=impl_IsFS k x0:=by kernel_rfl
def impl_IsCred_l1(k:Nat)(self:_→Option Bool)(d:(Unit×((List Int)×(Int×(Int×DCred))))):=
 let e0:=d.2.2.2.2
 (bif (decide (d.2.2.2.1<d.2.2.1))then(if 0≤d.2.2.2.1 then(d.2.1[d.2.2.2.1.toNat]?).bind fun v0=>
 (c_impl_isUser k v0).bind fun v1=>
 (bif (!v1)then some false else(bif (decide ((0:Int)<d.2.2.2.1))then(if 0≤(wrapK .i64 (d.2.2.2.1-(1:Int)))then(e0.2.2[(wrapK .i64 (d.2.2.2.1-(1:Int))).toNat]?).bind fun v2=>
 (bif (decide (v0≤v2))then some false else self ((),d.2.1,d.2.2.1,(wrapK .i64 (d.2.2.2.1+(1:Int))),e0))else none)else self ((),d.2.1,d.2.2.1,(wrapK .i64 (d.2.2.2.1+(1:Int))),e0)))else none)else(c_impl_isUser k e0.1).bind fun v3=>
 (bif v3 then(c_impl_isUser k e0.2.1).bind fun v4=>
 some v4 else some false))
def impl_IsCred(k:Nat)(x0:DCred):Option Bool:=
 iter k (impl_IsCred_l1 k) ((),x0.2.2,(x0.2.2.length:Int),(0:Int),x0)
theorem impl_IsCred_run(k:Nat)(x0:DCred):c_impl_IsCred (k+1) (x0)=impl_IsCred k x0:=by kernel_rfl
def impl_FS_has(k:Nat)(x0:(Option DFS))(x1:Int):Option Bool:=
 (bif (decide ((0:Int)≤x1))then(bif (decide (x1<(20:Int)))then(x0).bind fun y1=>
 (if 0≤x1 then(y1.2.2.1[x1.toNat]?).bind fun y2=>
 some (y2.1 != (0:Int))else none)else some false)else some false)
theorem impl_FS_has_run(k:Nat)(x0:(Option DFS))(x1:Int):c_impl_FS_has (k+1) (x0,x1)=impl_FS_has k x0 x1:=by kernel_rfl
def impl_FS_isDir(k:Nat)(x0:(Option DFS))(x1:Int):Option Bool:=
 (c_impl_FS_has k (x0,x1)).bind fun y1=>
 (bif y1 then(x0).bind fun y2=>
 (if 0≤x1 then(y2.2.2.1[x1.toNat]?).bind fun y3=>
 some (y3.1==(2:Int))else none)else some false)
theorem impl_FS_isDir_run(k:Nat)(x0:(Option DFS))(x1:Int):c_impl_FS_isDir (k+1) (x0,x1)=impl_FS_isDir k x0 x1:=by kernel_rfl
def impl_System_isOpen_l1(k:Nat)(a0:_→Option Bool)(self:_→Option Bool)(d:(Int×((List DProc)×(Int×(Int×((List DOpen)×DQuota)))))):=
 let e0:=d.2.2.2.2
 (bif (decide (e0.2.2<e0.2.1))then(if 0≤e0.2.2 then(e0.1[e0.2.2.toNat]?).bind fun v0=>
 (bif (v0.2.2 != (0:Int))then(bif (v0.1==d.1)then some true else self (d.1,d.2.1,d.2.2.1,d.2.2.2.1,e0.1,e0.2.1,(wrapK .i64 (e0.2.2+(1:Int)))))else self (d.1,d.2.1,d.2.2.1,d.2.2.2.1,e0.1,e0.2.1,(wrapK .i64 (e0.2.2+(1:Int)))))else none)else a0 (d.1,d.2.1,d.2.2.1,(wrapK .i64 (d.2.2.2.1+(1:Int)))))
def impl_System_isOpen_l2(k:Nat)(self:_→Option Bool)(d:(Int×((List DProc)×DQuota))):=
 (bif (decide (d.2.2.2<d.2.2.1))then(if 0≤d.2.2.2 then(d.2.1[d.2.2.2.toNat]?).bind fun v0=>
 iter k (impl_System_isOpen_l1 k self) (d.1,d.2.1,d.2.2.1,d.2.2.2,v0.2,(v0.2.length:Int),(0:Int))else none)else some false)
def impl_System_isOpen(k:Nat)(x0:(Option DSystem))(x1:Int):Option Bool:=
 (x0).bind fun y1=>
 iter k (impl_System_isOpen_l2 k) (x1,y1.2,(y1.2.length:Int),(0:Int))
theorem impl_System_isOpen_run(k:Nat)(x0:(Option DSystem))(x1:Int):c_impl_System_isOpen (k+1) (x0,x1)=impl_System_isOpen k x0 x1:=by kernel_rfl
def impl_IsSystem_l1(k:Nat)(a0:_→Option Bool)(self:_→Option Bool)(d:(Unit×((List DProc)×(Int×(Int×((List DOpen)×(Int×(Int×DSystem)))))))):=
 let e0:=d.2.2.2.2
 (bif (decide (e0.2.2.1<e0.2.1))then(if 0≤e0.2.2.1 then(e0.1[e0.2.2.1.toNat]?).bind fun v0=>
 (bif ((v0.1==(0:Int))&&((v0.2.1==(0:Int))&&(v0.2.2==(0:Int))))then self ((),d.2.1,d.2.2.1,d.2.2.2.1,e0.1,e0.2.1,(wrapK .i64 (e0.2.2.1+(1:Int))),e0.2.2.2)else(bif (decide (v0.2.2<(1:Int)))then some false else(bif (decide ((63:Int)<v0.2.2))then some false else(bif ((intBits .and .i64 v0.2.2 (6:Int))==(0:Int))then some false else(c_impl_FS_has k ((some e0.2.2.2.1),v0.1)).bind fun v1=>
 (bif (!v1)then some false else(c_impl_FS_isDir k ((some e0.2.2.2.1),v0.1)).bind fun v2=>
 (bif v2 then some false else(bif (decide (v0.2.1<(0:Int)))then some false else(bif (decide ((1000000:Int)<v0.2.1))then some false else self ((),d.2.1,d.2.2.1,d.2.2.2.1,e0.1,e0.2.1,(wrapK .i64 (e0.2.2.1+(1:Int))),e0.2.2.2)))))))))else none)else a0 ((),d.2.1,d.2.2.1,(wrapK .i64 (d.2.2.2.1+(1:Int))),e0.2.2.2))
def impl_IsSystem_l2(k:Nat)(self:_→Option Bool)(d:(Unit×((List DInode)×(Int×(Int×DSystem))))):=
 let e0:=d.2.2.2.2
 (bif (decide (d.2.2.2.1<d.2.2.1))then(if 0≤d.2.2.2.1 then(d.2.1[d.2.2.2.1.toNat]?).bind fun v0=>
 (bif (v0.1==(1:Int))then(bif (v0.2.2.2.2.1==(0:Int))then(c_impl_System_isOpen k ((some e0),d.2.2.2.1)).bind fun v1=>
 (bif (!v1)then some false else self ((),d.2.1,d.2.2.1,(wrapK .i64 (d.2.2.2.1+(1:Int))),e0))else self ((),d.2.1,d.2.2.1,(wrapK .i64 (d.2.2.2.1+(1:Int))),e0))else self ((),d.2.1,d.2.2.1,(wrapK .i64 (d.2.2.2.1+(1:Int))),e0))else none)else some true)
def impl_IsSystem_l3(k:Nat)(self:_→Option Bool)(d:(Unit×((List DProc)×(Int×(Int×DSystem))))):=
 let e0:=d.2.2.2.2
 (bif (decide (d.2.2.2.1<d.2.2.1))then(if 0≤d.2.2.2.1 then(d.2.1[d.2.2.2.1.toNat]?).bind fun v0=>
 (c_impl_IsCred k v0.1).bind fun v1=>
 (bif (!v1)then some false else(bif ((v0.2.length:Int) != (3:Int))then some false else iter k (impl_IsSystem_l1 k self) ((),d.2.1,d.2.2.1,d.2.2.2.1,v0.2,(v0.2.length:Int),(0:Int),e0)))else none)else iter k (impl_IsSystem_l2 k) ((),e0.1.2.2.1,(e0.1.2.2.1.length:Int),(0:Int),e0))
def impl_IsSystem(k:Nat)(x0:DSystem):Option Bool:=
 (c_impl_IsFS k x0.1).bind fun y1=>
 (bif (!y1)then some false else(bif ((x0.2.length:Int) != (4:Int))then some false else iter k (impl_IsSystem_l3 k) ((),x0.2,(x0.2.length:Int),(0:Int),x0)))
theorem impl_IsSystem_run(k:Nat)(x0:DSystem):c_impl_IsSystem (k+1) (x0)=impl_IsSystem k x0:=by kernel_rfl
def impl_copyInode(k:Nat)(x0:DInode):Option DInode:=
 (c_slices_Clone_int_int k x0.2.2.2.2.2.2.2.1).bind fun y1=>
 (c_slices_Clone_impl_AclEntry_impl_AclEntry k x0.2.2.2.2.2.2.2.2.1).bind fun y2=>
 (c_slices_Clone_impl_AclEntry_impl_AclEntry k x0.2.2.2.2.2.2.2.2.2).bind fun y3=>
 some (x0.1,x0.2.1,x0.2.2.1,x0.2.2.2.1,x0.2.2.2.2.1,x0.2.2.2.2.2.1,x0.2.2.2.2.2.2.1,y1,y2,y3)
theorem impl_copyInode_run(k:Nat)(x0:DInode):c_impl_copyInode (k+1) (x0)=impl_copyInode k x0:=by kernel_rfl
def impl_copyFS_l1(k:Nat)(self:_→Option DFS)(d:(Unit×(Unit×((List DInode)×(Int×(Int×(DFS×DFS))))))):=
 let e0:=d.2.2.2.2
 (bif (decide (e0.1<d.2.2.2.1))then(if 0≤e0.1 then(d.2.2.1[e0.1.toNat]?).bind fun v0=>
 (c_impl_copyInode k v0).bind fun v1=>
 (if(e0.2.1.2.2.1.length+([v1]:List DInode).length)*128≤capBytes then self ((),(),d.2.2.1,d.2.2.2.1,(wrapK .i64 (e0.1+(1:Int))),(e0.2.1.1,e0.2.1.2.1,(e0.2.1.2.2.1++([v1]:List DInode)),e0.2.1.2.2.2),e0.2.2)else none)else none)else some e0.2.1)
def impl_copyFS(k:Nat)(x0:DFS):Option DFS:=
 (c_slices_Clone_impl_Quota_impl_Quota k x0.2.1).bind fun y1=>
 (c_slices_Clone_string_string k x0.2.2.2).bind fun y2=>
 iter k (impl_copyFS_l1 k) ((),(),x0.2.2.1,(x0.2.2.1.length:Int),(0:Int),(x0.1,y1,([]:List DInode),y2),((0:Int),([]:List DQuota),([]:List DInode),([]:List ByteArray)))
theorem impl_copyFS_run(k:Nat)(x0:DFS):c_impl_copyFS (k+1) (x0)=impl_copyFS k x0:=by kernel_rfl
def impl_OrphansOf_l1(k:Nat)(self:_→Option (List Int))(d:((List Int)×((List DInode)×DQuota))):=
 (bif (decide (d.2.2.2<d.2.2.1))then(if 0≤d.2.2.2 then(d.2.1[d.2.2.2.toNat]?).bind fun v0=>
 (bif (v0.1 != (0:Int))then(bif (v0.2.2.2.2.1==(0:Int))then(if(d.1.length+([d.2.2.2]:List Int).length)*8≤capBytes then self ((d.1++([d.2.2.2]:List Int)),d.2.1,d.2.2.1,(wrapK .i64 (d.2.2.2+(1:Int))))else none)else self (d.1,d.2.1,d.2.2.1,(wrapK .i64 (d.2.2.2+(1:Int)))))else self (d.1,d.2.1,d.2.2.1,(wrapK .i64 (d.2.2.2+(1:Int)))))else none)else some d.1)
def impl_OrphansOf(k:Nat)(x0:DFS):Option (List Int):=
 (c_impl_IsFS k x0).bind fun y1=>
 (bif (!y1)then some ([]:List Int)else iter k (impl_OrphansOf_l1 k) (([]:List Int),x0.2.2.1,(x0.2.2.1.length:Int),(0:Int)))
theorem impl_OrphansOf_run(k:Nat)(x0:DFS):c_impl_OrphansOf (k+1) (x0)=impl_OrphansOf k x0:=by kernel_rfl
def impl_zeros(k:Nat)(x0:Int):Option ByteArray:=
 (if 0≤x0 then(if x0≤x0 then(if x0*1≤(capBytes:Int)then some (ofBytes (List.replicate x0.toNat (0:Int)))else none)else none)else none)
theorem impl_zeros_run(k:Nat)(x0:Int):c_impl_zeros (k+1) (x0)=impl_zeros k x0:=by kernel_rfl
def impl_UsedBlocks_l1(k:Nat)(self:_→Option (List Int))(d:((List Int)×((List Int)×DQuota))):=
 (bif (decide (d.2.2.2<d.2.2.1))then(if 0≤d.2.2.2 then(d.2.1[d.2.2.2.toNat]?).bind fun v0=>
 (bif (v0 != (-1:Int))then(if(d.1.length+([v0]:List Int).length)*8≤capBytes then self ((d.1++([v0]:List Int)),d.2.1,d.2.2.1,(wrapK .i64 (d.2.2.2+(1:Int))))else none)else self (d.1,d.2.1,d.2.2.1,(wrapK .i64 (d.2.2.2+(1:Int)))))else none)else some d.1)
def impl_UsedBlocks(k:Nat)(x0:DInode):Option (List Int):=
 iter k (impl_UsedBlocks_l1 k) (([]:List Int),x0.2.2.2.2.2.2.2.1,(x0.2.2.2.2.2.2.2.1.length:Int),(0:Int))
theorem impl_UsedBlocks_run(k:Nat)(x0:DInode):c_impl_UsedBlocks (k+1) (x0)=impl_UsedBlocks k x0:=by kernel_rfl
def impl_FS_free_l1(k:Nat)(self:_→Option (Int×DFS))(d:(Unit×(Int×((List Int)×(Int×(Int×DFS)))))):=
 let e0:=d.2.2.2.2
 let e1:=e0.2.2.2.2
 (bif (decide (e0.1<d.2.2.2.1))then(if 0≤e0.1 then(if e0.1<(d.2.2.1.length:Int)then(d.2.2.1[e0.1.toNat]?).bind fun v0=>
 (c_impl_zeros k (32:Int)).bind fun v1=>
 (if 0≤v0 then(if v0<(e1.length:Int)then(e1[v0.toNat]?).bind fun v2=>
 self ((),d.2.1,d.2.2.1,d.2.2.2.1,(wrapK .i64 (e0.1+(1:Int))),(e0.2.1,e0.2.2.1,e0.2.2.2.1,(e1.set v0.toNat v1)))else none)else none)else none)else none)else(if 0≤d.2.1 then(if d.2.1<(e0.2.2.2.1.length:Int)then(e0.2.2.2.1[d.2.1.toNat]?).bind fun v3=>
 some ((0:Int),(e0.2.1,e0.2.2.1,(e0.2.2.2.1.set d.2.1.toNat ((0:Int),(0:Int),(0:Int),(0:Int),(0:Int),(0:Int),(0:Int),([]:List Int),([]:List DOpen),([]:List DOpen))),e1))else none)else none))
def impl_FS_free(k:Nat)(x0:DFS)(x1:Int):Option (Int×DFS):=
 (bif (x1==(0:Int))then some ((1:Int),x0)else(if 0≤x1 then(if x1<(x0.2.2.1.length:Int)then(x0.2.2.1[x1.toNat]?).bind fun y1=>
 (x0.2.2.1[x1.toNat]?).bind fun y2=>
 (c_impl_UsedBlocks k y2).bind fun y3=>
 iter k (impl_FS_free_l1 k) ((),x1,y3,(y3.length:Int),(0:Int),x0)else none)else none))
theorem impl_FS_free_run(k:Nat)(x0:DFS)(x1:Int):c_impl_FS_free (k+1) (x0,x1)=impl_FS_free k x0 x1:=by kernel_rfl
def impl_DropOrphans_l1(k:Nat)(self:_→Option DFS)(d:((List Int)×(Unit×(Unit×((List Int)×(Int×(Int×(DFS×DFS)))))))):=
 let e0:=d.2.2.2.2
 (bif (decide (e0.2.1<e0.1))then(if 0≤e0.2.1 then(if e0.2.1<(d.2.2.2.1.length:Int)then(d.2.2.2.1[e0.2.1.toNat]?).bind fun v0=>
 (c_slices_Contains_int_int k (d.1,v0)).bind fun v1=>
 (bif (!v1)then(c_impl_FS_free k (e0.2.2.1,v0)).bind fun v2=>
 self (d.1,(),(),d.2.2.2.1,e0.1,(wrapK .i64 (e0.2.1+(1:Int))),v2.2,e0.2.2.2)else self (d.1,(),(),d.2.2.2.1,e0.1,(wrapK .i64 (e0.2.1+(1:Int))),e0.2.2.1,e0.2.2.2))else none)else none)else some e0.2.2.1)
def impl_DropOrphans(k:Nat)(x0:DFS)(x1:(List Int)):Option DFS:=
 (c_impl_copyFS k x0).bind fun y1=>
 (c_impl_OrphansOf k x0).bind fun y2=>
 iter k (impl_DropOrphans_l1 k) (x1,(),(),y2,(y2.length:Int),(0:Int),y1,((0:Int),([]:List DQuota),([]:List DInode),([]:List ByteArray)))
theorem impl_DropOrphans_run(k:Nat)(x0:DFS)(x1:(List Int)):c_impl_DropOrphans (k+1) (x0,x1)=impl_DropOrphans k x0 x1:=by kernel_rfl
def impl_copyCred(k:Nat)(x0:DCred):Option DCred:=
 (c_slices_Clone_int_int k x0.2.2).bind fun y1=>
 some (x0.1,x0.2.1,y1)
theorem impl_copyCred_run(k:Nat)(x0:DCred):c_impl_copyCred (k+1) (x0)=impl_copyCred k x0:=by kernel_rfl
def impl_NewSystem_l1(k:Nat)(self:_→Option DSystem)(d:(Unit×(Unit×((List DCred)×(Int×(Int×(DSystem×DSystem))))))):=
 let e0:=d.2.2.2.2
 (bif (decide (e0.1<d.2.2.2.1))then(if 0≤e0.1 then(d.2.2.1[e0.1.toNat]?).bind fun v0=>
 (c_impl_copyCred k v0).bind fun v1=>
 (if 0≤(3:Int)then(if(3:Int)≤(3:Int)then(if(3:Int)*24≤(capBytes:Int)then(if(e0.2.1.2.length+([(v1,(List.replicate (3:Int).toNat ((0:Int),(0:Int),(0:Int))))]:List DProc).length)*64≤capBytes then self ((),(),d.2.2.1,d.2.2.2.1,(wrapK .i64 (e0.1+(1:Int))),(e0.2.1.1,(e0.2.1.2++([(v1,(List.replicate (3:Int).toNat ((0:Int),(0:Int),(0:Int))))]:List DProc))),e0.2.2)else none)else none)else none)else none)else none)else(c_impl_IsSystem k e0.2.1).bind fun v2=>
 (bif (!v2)then some (((0:Int),([]:List DQuota),([]:List DInode),([]:List ByteArray)),([]:List DProc))else some e0.2.1))
def impl_NewSystem(k:Nat)(x0:DFS)(x1:(List DCred)):Option DSystem:=
 (bif ((x1.length:Int) != (4:Int))then some (((0:Int),([]:List DQuota),([]:List DInode),([]:List ByteArray)),([]:List DProc))else(c_impl_DropOrphans k (x0,([]:List Int))).bind fun y1=>
 iter k (impl_NewSystem_l1 k) ((),(),x1,(x1.length:Int),(0:Int),(y1,([]:List DProc)),(((0:Int),([]:List DQuota),([]:List DInode),([]:List ByteArray)),([]:List DProc))))
theorem impl_NewSystem_run(k:Nat)(x0:DFS)(x1:(List DCred)):c_impl_NewSystem (k+1) (x0,x1)=impl_NewSystem k x0 x1:=by kernel_rfl
def impl_PutNumber_l1(k:Nat)(self:_→Option ByteArray)(d:(Int×((List Int)×Int))):=
 (bif (decide ((0:Int)≤d.2.2))then(if 0≤d.2.2 then(if d.2.2<(d.2.1.length:Int)then(d.2.1[d.2.2.toNat]?).bind fun v0=>
 (if 0≤(8:Int)then self ((d.1.fdiv (2 ^(min (8:Int).toNat (IntKind.bits .i64)))),(d.2.1.set d.2.2.toNat (wrapK .u8 d.1)),(wrapK .i64 (d.2.2-(1:Int))))else none)else none)else none)else some (ofBytes d.2.1))
def impl_PutNumber(k:Nat)(x0:Int)(x1:Int):Option ByteArray:=
 (bif (decide (x1<(1:Int)))then some (⟨#[]⟩:ByteArray)else(bif (decide ((6:Int)<x1))then some (⟨#[]⟩:ByteArray)else(bif (decide (x0<(0:Int)))then some (⟨#[]⟩:ByteArray)else(if 0≤(wrapK .i64 ((8:Int)*x1))then(bif (decide ((wrapK .i64 ((1:Int)*2 ^(min (wrapK .i64 ((8:Int)*x1)).toNat (IntKind.bits .i64))))≤x0))then some (⟨#[]⟩:ByteArray)else(if 0≤x1 then(if x1≤x1 then(if x1*1≤(capBytes:Int)then iter k (impl_PutNumber_l1 k) (x0,(List.replicate x1.toNat (0:Int)),(wrapK .i64 (x1-(1:Int))))else none)else none)else none))else none))))
theorem impl_PutNumber_run(k:Nat)(x0:Int)(x1:Int):c_impl_PutNumber (k+1) (x0,x1)=impl_PutNumber k x0 x1:=by kernel_rfl
def impl_PadTo(k:Nat)(x0:ByteArray)(x1:Int):Option ByteArray:=
 (bif (decide (x1≤(x0.size:Int)))then some x0 else(bif (decide ((100000:Int)<x1))then some (⟨#[]⟩:ByteArray)else(c_strings_Repeat k ((⟨#[0]⟩:ByteArray),(wrapK .i64 (x1-(x0.size:Int))))).bind fun y1=>
 (if x0.size+y1.size≤9223372036854775807 then some (x0++y1)else none)))
theorem impl_PadTo_run(k:Nat)(x0:ByteArray)(x1:Int):c_impl_PadTo (k+1) (x0,x1)=impl_PadTo k x0 x1:=by kernel_rfl
def impl_FS_super_l1(k:Nat)(self:_→Option ByteArray)(d:(ByteArray×((List DQuota)×DQuota))):=
 (bif (decide (d.2.2.2<d.2.2.1))then(if 0≤d.2.2.2 then(d.2.1[d.2.2.2.toNat]?).bind fun v0=>
 (c_impl_PutNumber k (v0.1,(1:Int))).bind fun v1=>
 (c_impl_PutNumber k (v0.2,(1:Int))).bind fun v2=>
 (if v1.size+v2.size≤9223372036854775807 then(if d.1.size+(v1++v2).size≤9223372036854775807 then self ((d.1++(v1++v2)),d.2.1,d.2.2.1,(wrapK .i64 (d.2.2.2+(1:Int))))else none)else none)else none)else(c_impl_PadTo k (d.1,(32:Int))).bind fun v3=>
 some v3)
def impl_FS_super(k:Nat)(x0:(Option DFS)):Option ByteArray:=
 (x0).bind fun y1=>
 (c_impl_PutNumber k (y1.1,(4:Int))).bind fun y2=>
 (if(⟨#[70,83,89,83]⟩:ByteArray).size+y2.size≤9223372036854775807 then(x0).bind fun y3=>
 iter k (impl_FS_super_l1 k) (((⟨#[70,83,89,83]⟩:ByteArray)++y2),y3.2.1,(y3.2.1.length:Int),(0:Int))else none)
theorem impl_FS_super_run(k:Nat)(x0:(Option DFS)):c_impl_FS_super (k+1) (x0)=impl_FS_super k x0:=by kernel_rfl
def impl_CutAll_l1(k:Nat)(self:_→Option (List ByteArray))(d:(ByteArray×(Int×(List ByteArray)))):=
 (bif (decide ((0:Int)<(d.1.size:Int)))then(if 0≤(min d.2.1 (d.1.size:Int))then(if(min d.2.1 (d.1.size:Int))≤(d.1.size:Int)then(if(d.2.2.length+([(d.1.extract 0 ((min d.2.1 (d.1.size:Int)).toNat))]:List ByteArray).length)*16≤capBytes then(if 0≤(min d.2.1 (d.1.size:Int))then(if(min d.2.1 (d.1.size:Int))≤(d.1.size:Int)then self ((d.1.extract ((min d.2.1 (d.1.size:Int)).toNat) d.1.size),d.2.1,(d.2.2++([(d.1.extract 0 ((min d.2.1 (d.1.size:Int)).toNat))]:List ByteArray)))else none)else none)else none)else none)else none)else some d.2.2)
def impl_CutAll(k:Nat)(x0:ByteArray)(x1:Int):Option (List ByteArray):=
 (bif (decide (x1<(1:Int)))then some ([]:List ByteArray)else(bif (decide ((1000:Int)<x1))then some ([]:List ByteArray)else iter k (impl_CutAll_l1 k) (x0,x1,([]:List ByteArray))))
theorem impl_CutAll_run(k:Nat)(x0:ByteArray)(x1:Int):c_impl_CutAll (k+1) (x0,x1)=impl_CutAll k x0 x1:=by kernel_rfl
def impl_PackAcl_l1(k:Nat)(self:_→Option ByteArray)(d:(ByteArray×((List DOpen)×DQuota))):=
 (bif (decide (d.2.2.2<d.2.2.1))then(if 0≤d.2.2.2 then(d.2.1[d.2.2.2.toNat]?).bind fun v0=>
 (c_impl_PutNumber k (v0.1,(1:Int))).bind fun v1=>
 (c_impl_PutNumber k (v0.2.1,(1:Int))).bind fun v2=>
 (if v1.size+v2.size≤9223372036854775807 then(c_impl_PutNumber k (v0.2.2,(1:Int))).bind fun v3=>
 (if(v1++v2).size+v3.size≤9223372036854775807 then(if d.1.size+((v1++v2)++v3).size≤9223372036854775807 then self ((d.1++((v1++v2)++v3)),d.2.1,d.2.2.1,(wrapK .i64 (d.2.2.2+(1:Int))))else none)else none)else none)else none)else(c_impl_PadTo k (d.1,(19:Int))).bind fun v4=>
 some v4)
def impl_PackAcl(k:Nat)(x0:(List DOpen)):Option ByteArray:=
 (c_impl_IsAcl k x0).bind fun y1=>
 (bif (!y1)then some (⟨#[]⟩:ByteArray)else(c_impl_PutNumber k ((x0.length:Int),(1:Int))).bind fun y2=>
 iter k (impl_PackAcl_l1 k) (y2,x0,(x0.length:Int),(0:Int)))
theorem impl_PackAcl_run(k:Nat)(x0:(List DOpen)):c_impl_PackAcl (k+1) (x0)=impl_PackAcl k x0:=by kernel_rfl
def impl_PackInode_l1(k:Nat)(self:_→Option ByteArray)(d:(Unit×(ByteArray×(Int×DInode)))):=
 let e0:=d.2.2.2.2
 let e1:=e0.2.2.2.2
 (bif (decide (d.2.2.1<(8:Int)))then(bif (decide (d.2.2.1<(e1.2.2.1.length:Int)))then(if 0≤d.2.2.1 then(e1.2.2.1[d.2.2.1.toNat]?).bind fun v0=>
 (c_impl_PutNumber k ((wrapK .i64 (v0+(1:Int))),(2:Int))).bind fun v1=>
 (if d.2.1.size+v1.size≤9223372036854775807 then self ((),(d.2.1++v1),(wrapK .i64 (d.2.2.1+(1:Int))),d.2.2.2)else none)else none)else(c_impl_PutNumber k ((wrapK .i64 ((-1:Int)+(1:Int))),(2:Int))).bind fun v2=>
 (if d.2.1.size+v2.size≤9223372036854775807 then self ((),(d.2.1++v2),(wrapK .i64 (d.2.2.1+(1:Int))),d.2.2.2)else none))else(c_impl_PackAcl k e1.2.2.2.1).bind fun v3=>
 (if d.2.1.size+v3.size≤9223372036854775807 then(c_impl_PackAcl k e1.2.2.2.2).bind fun v4=>
 (if(d.2.1++v3).size+v4.size≤9223372036854775807 then(c_impl_PadTo k (((d.2.1++v3)++v4),(96:Int))).bind fun v5=>
 some v5 else none)else none))
def impl_PackInode(k:Nat)(x0:DInode):Option ByteArray:=
 (c_impl_IsInode k x0).bind fun y1=>
 (bif (!y1)then some (⟨#[]⟩:ByteArray)else(c_impl_PutNumber k (x0.1,(1:Int))).bind fun y2=>
 (c_impl_PutNumber k (x0.2.1,(2:Int))).bind fun y3=>
 (if y2.size+y3.size≤9223372036854775807 then(c_impl_PutNumber k (x0.2.2.1,(1:Int))).bind fun y4=>
 (if(y2++y3).size+y4.size≤9223372036854775807 then(c_impl_PutNumber k (x0.2.2.2.1,(1:Int))).bind fun y5=>
 (if((y2++y3)++y4).size+y5.size≤9223372036854775807 then(c_impl_PutNumber k (x0.2.2.2.2.1,(2:Int))).bind fun y6=>
 (if(((y2++y3)++y4)++y5).size+y6.size≤9223372036854775807 then(c_impl_PutNumber k (x0.2.2.2.2.2.1,(2:Int))).bind fun y7=>
 (if((((y2++y3)++y4)++y5)++y6).size+y7.size≤9223372036854775807 then(c_impl_PutNumber k (x0.2.2.2.2.2.2.1,(4:Int))).bind fun y8=>
 (if(((((y2++y3)++y4)++y5)++y6)++y7).size+y8.size≤9223372036854775807 then iter k (impl_PackInode_l1 k) ((),((((((y2++y3)++y4)++y5)++y6)++y7)++y8),(0:Int),x0)else none)else none)else none)else none)else none)else none))
theorem impl_PackInode_run(k:Nat)(x0:DInode):c_impl_PackInode (k+1) (x0)=impl_PackInode k x0:=by kernel_rfl
def impl_PackFS_l1(k:Nat)(self:_→Option (List ByteArray))(d:(Unit×((List ByteArray)×((List DInode)×(Int×(Int×DFS)))))):=
 let e0:=d.2.2.2.2
 (bif (decide (e0.1<d.2.2.2.1))then(if 0≤e0.1 then(d.2.2.1[e0.1.toNat]?).bind fun v0=>
 (c_impl_PackInode k v0).bind fun v1=>
 (c_impl_CutAll k (v1,(32:Int))).bind fun v2=>
 (if(d.2.1.length+v2.length)*16≤capBytes then self ((),(d.2.1++v2),d.2.2.1,d.2.2.2.1,(wrapK .i64 (e0.1+(1:Int))),e0.2)else none)else none)else(if(d.2.1.length+e0.2.2.2.2.length)*16≤capBytes then some (d.2.1++e0.2.2.2.2)else none))
def impl_PackFS(k:Nat)(x0:DFS):Option (List ByteArray):=
 (c_impl_IsFS k x0).bind fun y1=>
 (bif (!y1)then some ([]:List ByteArray)else(c_impl_FS_super k (some x0)).bind fun y2=>
 (c_impl_zeros k (32:Int)).bind fun y3=>
 (c_slices_Repeat_string_string k (([y3]:List ByteArray),(69:Int))).bind fun y4=>
 (if(([y2]:List ByteArray).length+y4.length)*16≤capBytes then iter k (impl_PackFS_l1 k) ((),(([y2]:List ByteArray)++y4),x0.2.2.1,(x0.2.2.1.length:Int),(0:Int),x0)else none))
theorem impl_PackFS_run(k:Nat)(x0:DFS):c_impl_PackFS (k+1) (x0)=impl_PackFS k x0:=by kernel_rfl
def impl_FormatFS(k:Nat)(x0:DFS):Option DDisk:=
 (c_impl_PackFS k x0).bind fun y1=>
 some (y1,([]:List DWrite))
theorem impl_FormatFS_run(k:Nat)(x0:DFS):c_impl_FormatFS (k+1) (x0)=impl_FormatFS k x0:=by kernel_rfl
def impl_StartMachine(k:Nat)(x0:DFS)(x1:(List DCred)):Option (DMachine×Bool):=
 (c_impl_NewSystem k (x0,x1)).bind fun y1=>
 (c_impl_IsSystem k y1).bind fun y2=>
 (bif (!y2)then some (((([]:List ByteArray),([]:List DWrite)),(0:Int),((0:Int),([]:List DQuota),([]:List DInode),([]:List ByteArray)),([]:List DProc)),false)else(c_impl_FormatFS k y1.1).bind fun y3=>
 some ((y3,(0:Int),y1),true))
theorem impl_StartMachine_run(k:Nat)(x0:DFS)(x1:(List DCred)):c_impl_StartMachine (k+1) (x0,x1)=impl_StartMachine k x0 x1:=by kernel_rfl
def laws_eqStringS_l1(k:Nat)(self:_→Option Bool)(d:((List ByteArray)×((List ByteArray)×Int))):=
 (bif (decide (d.2.2<(d.1.length:Int)))then(if 0≤d.2.2 then(d.1[d.2.2.toNat]?).bind fun v0=>
 (if 0≤d.2.2 then(d.2.1[d.2.2.toNat]?).bind fun v1=>
 (bif (!(eqS v0 v1))then some false else self (d.1,d.2.1,(wrapK .i64 (d.2.2+(1:Int)))))else none)else none)else some true)
def laws_eqStringS(k:Nat)(x0:(List ByteArray))(x1:(List ByteArray)):Option Bool:=
 (bif ((x0.length:Int) != (x1.length:Int))then some false else iter k (laws_eqStringS_l1 k) (x0,x1,(0:Int)))
theorem laws_eqStringS_run(k:Nat)(x0:(List ByteArray))(x1:(List ByteArray)):c_laws_eqStringS (k+1) (x0,x1)=laws_eqStringS k x0 x1:=by kernel_rfl
def laws_eqWrite(k:Nat)(x0:DWrite)(x1:DWrite):Option Bool:=
 (bif (x0.1 != x1.1)then some false else(bif (!(eqS x0.2 x1.2))then some false else some true))
theorem laws_eqWrite_run(k:Nat)(x0:DWrite)(x1:DWrite):c_laws_eqWrite (k+1) (x0,x1)=laws_eqWrite k x0 x1:=by kernel_rfl
def laws_eqWriteS_l1(k:Nat)(self:_→Option Bool)(d:((List DWrite)×((List DWrite)×Int))):=
 (bif (decide (d.2.2<(d.1.length:Int)))then(if 0≤d.2.2 then(d.1[d.2.2.toNat]?).bind fun v0=>
 (if 0≤d.2.2 then(d.2.1[d.2.2.toNat]?).bind fun v1=>
 (c_laws_eqWrite k (v0,v1)).bind fun v2=>
 (bif (!v2)then some false else self (d.1,d.2.1,(wrapK .i64 (d.2.2+(1:Int)))))else none)else none)else some true)
def laws_eqWriteS(k:Nat)(x0:(List DWrite))(x1:(List DWrite)):Option Bool:=
 (bif ((x0.length:Int) != (x1.length:Int))then some false else iter k (laws_eqWriteS_l1 k) (x0,x1,(0:Int)))
theorem laws_eqWriteS_run(k:Nat)(x0:(List DWrite))(x1:(List DWrite)):c_laws_eqWriteS (k+1) (x0,x1)=laws_eqWriteS k x0 x1:=by kernel_rfl
def laws_eqDisk(k:Nat)(x0:DDisk)(x1:DDisk):Option Bool:=
 (c_laws_eqStringS k (x0.1,x1.1)).bind fun y1=>
 (bif (!y1)then some false else(c_laws_eqWriteS k (x0.2,x1.2)).bind fun y2=>
 (bif (!y2)then some false else some true))
theorem laws_eqDisk_run(k:Nat)(x0:DDisk)(x1:DDisk):c_laws_eqDisk (k+1) (x0,x1)=laws_eqDisk k x0 x1:=by kernel_rfl
def laws_eqQuota(k:Nat)(x0:DQuota)(x1:DQuota):Option Bool:=
 (bif (x0.1 != x1.1)then some false else(bif (x0.2 != x1.2)then some false else some true))
theorem laws_eqQuota_run(k:Nat)(x0:DQuota)(x1:DQuota):c_laws_eqQuota (k+1) (x0,x1)=laws_eqQuota k x0 x1:=by kernel_rfl
def laws_eqQuotaS_l1(k:Nat)(self:_→Option Bool)(d:((List DQuota)×((List DQuota)×Int))):=
 (bif (decide (d.2.2<(d.1.length:Int)))then(if 0≤d.2.2 then(d.1[d.2.2.toNat]?).bind fun v0=>
 (if 0≤d.2.2 then(d.2.1[d.2.2.toNat]?).bind fun v1=>
 (c_laws_eqQuota k (v0,v1)).bind fun v2=>
 (bif (!v2)then some false else self (d.1,d.2.1,(wrapK .i64 (d.2.2+(1:Int)))))else none)else none)else some true)
def laws_eqQuotaS(k:Nat)(x0:(List DQuota))(x1:(List DQuota)):Option Bool:=
 (bif ((x0.length:Int) != (x1.length:Int))then some false else iter k (laws_eqQuotaS_l1 k) (x0,x1,(0:Int)))
theorem laws_eqQuotaS_run(k:Nat)(x0:(List DQuota))(x1:(List DQuota)):c_laws_eqQuotaS (k+1) (x0,x1)=laws_eqQuotaS k x0 x1:=by kernel_rfl
def laws_eqIntS_l1(k:Nat)(self:_→Option Bool)(d:((List Int)×((List Int)×Int))):=
 (bif (decide (d.2.2<(d.1.length:Int)))then(if 0≤d.2.2 then(d.1[d.2.2.toNat]?).bind fun v0=>
 (if 0≤d.2.2 then(d.2.1[d.2.2.toNat]?).bind fun v1=>
 (bif (v0 != v1)then some false else self (d.1,d.2.1,(wrapK .i64 (d.2.2+(1:Int)))))else none)else none)else some true)
def laws_eqIntS(k:Nat)(x0:(List Int))(x1:(List Int)):Option Bool:=
 (bif ((x0.length:Int) != (x1.length:Int))then some false else iter k (laws_eqIntS_l1 k) (x0,x1,(0:Int)))
theorem laws_eqIntS_run(k:Nat)(x0:(List Int))(x1:(List Int)):c_laws_eqIntS (k+1) (x0,x1)=laws_eqIntS k x0 x1:=by kernel_rfl
def laws_eqAclEntry(k:Nat)(x0:DOpen)(x1:DOpen):Option Bool:=
 (bif (x0.1 != x1.1)then some false else(bif (x0.2.1 != x1.2.1)then some false else(bif (x0.2.2 != x1.2.2)then some false else some true)))
theorem laws_eqAclEntry_run(k:Nat)(x0:DOpen)(x1:DOpen):c_laws_eqAclEntry (k+1) (x0,x1)=laws_eqAclEntry k x0 x1:=by kernel_rfl
def laws_eqAclEntryS_l1(k:Nat)(self:_→Option Bool)(d:((List DOpen)×((List DOpen)×Int))):=
 (bif (decide (d.2.2<(d.1.length:Int)))then(if 0≤d.2.2 then(d.1[d.2.2.toNat]?).bind fun v0=>
 (if 0≤d.2.2 then(d.2.1[d.2.2.toNat]?).bind fun v1=>
 (c_laws_eqAclEntry k (v0,v1)).bind fun v2=>
 (bif (!v2)then some false else self (d.1,d.2.1,(wrapK .i64 (d.2.2+(1:Int)))))else none)else none)else some true)
def laws_eqAclEntryS(k:Nat)(x0:(List DOpen))(x1:(List DOpen)):Option Bool:=
 (bif ((x0.length:Int) != (x1.length:Int))then some false else iter k (laws_eqAclEntryS_l1 k) (x0,x1,(0:Int)))
theorem laws_eqAclEntryS_run(k:Nat)(x0:(List DOpen))(x1:(List DOpen)):c_laws_eqAclEntryS (k+1) (x0,x1)=laws_eqAclEntryS k x0 x1:=by kernel_rfl
def laws_eqInode(k:Nat)(x0:DInode)(x1:DInode):Option Bool:=
 (bif (x0.1 != x1.1)then some false else(bif (x0.2.1 != x1.2.1)then some false else(bif (x0.2.2.1 != x1.2.2.1)then some false else(bif (x0.2.2.2.1 != x1.2.2.2.1)then some false else(bif (x0.2.2.2.2.1 != x1.2.2.2.2.1)then some false else(bif (x0.2.2.2.2.2.1 != x1.2.2.2.2.2.1)then some false else(bif (x0.2.2.2.2.2.2.1 != x1.2.2.2.2.2.2.1)then some false else(c_laws_eqIntS k (x0.2.2.2.2.2.2.2.1,x1.2.2.2.2.2.2.2.1)).bind fun y1=>
 (bif (!y1)then some false else(c_laws_eqAclEntryS k (x0.2.2.2.2.2.2.2.2.1,x1.2.2.2.2.2.2.2.2.1)).bind fun y2=>
 (bif (!y2)then some false else(c_laws_eqAclEntryS k (x0.2.2.2.2.2.2.2.2.2,x1.2.2.2.2.2.2.2.2.2)).bind fun y3=>
 (bif (!y3)then some false else some true))))))))))
theorem laws_eqInode_run(k:Nat)(x0:DInode)(x1:DInode):c_laws_eqInode (k+1) (x0,x1)=laws_eqInode k x0 x1:=by kernel_rfl
def laws_eqInodeS_l1(k:Nat)(self:_→Option Bool)(d:((List DInode)×((List DInode)×Int))):=
 (bif (decide (d.2.2<(d.1.length:Int)))then(if 0≤d.2.2 then(d.1[d.2.2.toNat]?).bind fun v0=>
 (if 0≤d.2.2 then(d.2.1[d.2.2.toNat]?).bind fun v1=>
 (c_laws_eqInode k (v0,v1)).bind fun v2=>
 (bif (!v2)then some false else self (d.1,d.2.1,(wrapK .i64 (d.2.2+(1:Int)))))else none)else none)else some true)
def laws_eqInodeS(k:Nat)(x0:(List DInode))(x1:(List DInode)):Option Bool:=
 (bif ((x0.length:Int) != (x1.length:Int))then some false else iter k (laws_eqInodeS_l1 k) (x0,x1,(0:Int)))
theorem laws_eqInodeS_run(k:Nat)(x0:(List DInode))(x1:(List DInode)):c_laws_eqInodeS (k+1) (x0,x1)=laws_eqInodeS k x0 x1:=by kernel_rfl
def laws_eqFS(k:Nat)(x0:DFS)(x1:DFS):Option Bool:=
 (bif (x0.1 != x1.1)then some false else(c_laws_eqQuotaS k (x0.2.1,x1.2.1)).bind fun y1=>
 (bif (!y1)then some false else(c_laws_eqInodeS k (x0.2.2.1,x1.2.2.1)).bind fun y2=>
 (bif (!y2)then some false else(c_laws_eqStringS k (x0.2.2.2,x1.2.2.2)).bind fun y3=>
 (bif (!y3)then some false else some true))))
theorem laws_eqFS_run(k:Nat)(x0:DFS)(x1:DFS):c_laws_eqFS (k+1) (x0,x1)=laws_eqFS k x0 x1:=by kernel_rfl
def laws_eqCred(k:Nat)(x0:DCred)(x1:DCred):Option Bool:=
 (bif (x0.1 != x1.1)then some false else(bif (x0.2.1 != x1.2.1)then some false else(c_laws_eqIntS k (x0.2.2,x1.2.2)).bind fun y1=>
 (bif (!y1)then some false else some true)))
theorem laws_eqCred_run(k:Nat)(x0:DCred)(x1:DCred):c_laws_eqCred (k+1) (x0,x1)=laws_eqCred k x0 x1:=by kernel_rfl
def laws_eqOpen(k:Nat)(x0:DOpen)(x1:DOpen):Option Bool:=
 (bif (x0.1 != x1.1)then some false else(bif (x0.2.1 != x1.2.1)then some false else(bif (x0.2.2 != x1.2.2)then some false else some true)))
theorem laws_eqOpen_run(k:Nat)(x0:DOpen)(x1:DOpen):c_laws_eqOpen (k+1) (x0,x1)=laws_eqOpen k x0 x1:=by kernel_rfl
def laws_eqOpenS_l1(k:Nat)(self:_→Option Bool)(d:((List DOpen)×((List DOpen)×Int))):=
 (bif (decide (d.2.2<(d.1.length:Int)))then(if 0≤d.2.2 then(d.1[d.2.2.toNat]?).bind fun v0=>
 (if 0≤d.2.2 then(d.2.1[d.2.2.toNat]?).bind fun v1=>
 (c_laws_eqOpen k (v0,v1)).bind fun v2=>
 (bif (!v2)then some false else self (d.1,d.2.1,(wrapK .i64 (d.2.2+(1:Int)))))else none)else none)else some true)
def laws_eqOpenS(k:Nat)(x0:(List DOpen))(x1:(List DOpen)):Option Bool:=
 (bif ((x0.length:Int) != (x1.length:Int))then some false else iter k (laws_eqOpenS_l1 k) (x0,x1,(0:Int)))
theorem laws_eqOpenS_run(k:Nat)(x0:(List DOpen))(x1:(List DOpen)):c_laws_eqOpenS (k+1) (x0,x1)=laws_eqOpenS k x0 x1:=by kernel_rfl
def laws_eqProc(k:Nat)(x0:DProc)(x1:DProc):Option Bool:=
 (c_laws_eqCred k (x0.1,x1.1)).bind fun y1=>
 (bif (!y1)then some false else(c_laws_eqOpenS k (x0.2,x1.2)).bind fun y2=>
 (bif (!y2)then some false else some true))
theorem laws_eqProc_run(k:Nat)(x0:DProc)(x1:DProc):c_laws_eqProc (k+1) (x0,x1)=laws_eqProc k x0 x1:=by kernel_rfl
def laws_eqProcS_l1(k:Nat)(self:_→Option Bool)(d:((List DProc)×((List DProc)×Int))):=
 (bif (decide (d.2.2<(d.1.length:Int)))then(if 0≤d.2.2 then(d.1[d.2.2.toNat]?).bind fun v0=>
 (if 0≤d.2.2 then(d.2.1[d.2.2.toNat]?).bind fun v1=>
 (c_laws_eqProc k (v0,v1)).bind fun v2=>
 (bif (!v2)then some false else self (d.1,d.2.1,(wrapK .i64 (d.2.2+(1:Int)))))else none)else none)else some true)
def laws_eqProcS(k:Nat)(x0:(List DProc))(x1:(List DProc)):Option Bool:=
 (bif ((x0.length:Int) != (x1.length:Int))then some false else iter k (laws_eqProcS_l1 k) (x0,x1,(0:Int)))
theorem laws_eqProcS_run(k:Nat)(x0:(List DProc))(x1:(List DProc)):c_laws_eqProcS (k+1) (x0,x1)=laws_eqProcS k x0 x1:=by kernel_rfl
def laws_eqSystem(k:Nat)(x0:DSystem)(x1:DSystem):Option Bool:=
 (c_laws_eqFS k (x0.1,x1.1)).bind fun y1=>
 (bif (!y1)then some false else(c_laws_eqProcS k (x0.2,x1.2)).bind fun y2=>
 (bif (!y2)then some false else some true))
theorem laws_eqSystem_run(k:Nat)(x0:DSystem)(x1:DSystem):c_laws_eqSystem (k+1) (x0,x1)=laws_eqSystem k x0 x1:=by kernel_rfl
def laws_eqMachine(k:Nat)(x0:DMachine)(x1:DMachine):Option Bool:=
 (c_laws_eqDisk k (x0.1,x1.1)).bind fun y1=>
 (bif (!y1)then some false else(bif (x0.2.1 != x1.2.1)then some false else(c_laws_eqSystem k (x0.2.2,x1.2.2)).bind fun y2=>
 (bif (!y2)then some false else some true)))
theorem laws_eqMachine_run(k:Nat)(x0:DMachine)(x1:DMachine):c_laws_eqMachine (k+1) (x0,x1)=laws_eqMachine k x0 x1:=by kernel_rfl
def laws_eqCredS_l1(k:Nat)(self:_→Option Bool)(d:((List DCred)×((List DCred)×Int))):=
 (bif (decide (d.2.2<(d.1.length:Int)))then(if 0≤d.2.2 then(d.1[d.2.2.toNat]?).bind fun v0=>
 (if 0≤d.2.2 then(d.2.1[d.2.2.toNat]?).bind fun v1=>
 (c_laws_eqCred k (v0,v1)).bind fun v2=>
 (bif (!v2)then some false else self (d.1,d.2.1,(wrapK .i64 (d.2.2+(1:Int)))))else none)else none)else some true)
def laws_eqCredS(k:Nat)(x0:(List DCred))(x1:(List DCred)):Option Bool:=
 (bif ((x0.length:Int) != (x1.length:Int))then some false else iter k (laws_eqCredS_l1 k) (x0,x1,(0:Int)))
theorem laws_eqCredS_run(k:Nat)(x0:(List DCred))(x1:(List DCred)):c_laws_eqCredS (k+1) (x0,x1)=laws_eqCredS k x0 x1:=by kernel_rfl
def laws_markIntS_l1(k:Nat)(self:_→Option (Int×(List Int)))(d:(Unit×DCred)):=
 (bif (decide (d.2.2.1<(d.2.2.2.length:Int)))then(if 0≤d.2.2.1 then(if d.2.2.1<(d.2.2.2.length:Int)then(d.2.2.2[d.2.2.1.toNat]?).bind fun v0=>
 self ((),(wrapK .i64 (d.2.1+(1:Int))),(wrapK .i64 (d.2.2.1+(1:Int))),(d.2.2.2.set d.2.2.1.toNat d.2.1))else none)else none)else some (d.2.1,d.2.2.2))
def laws_markIntS(k:Nat)(x0:(List Int))(x1:Int):Option (Int×(List Int)):=
 iter k (laws_markIntS_l1 k) ((),x1,(0:Int),x0)
theorem laws_markIntS_run(k:Nat)(x0:(List Int))(x1:Int):c_laws_markIntS (k+1) (x0,x1)=laws_markIntS k x0 x1:=by kernel_rfl
def laws_markCredS_l1(k:Nat)(self:_→Option (Int×(List DCred)))(d:(Unit×(Int×(Int×(List DCred))))):=
 (bif (decide (d.2.2.1<(d.2.2.2.length:Int)))then(if 0≤d.2.2.1 then(if d.2.2.1<(d.2.2.2.length:Int)then(d.2.2.2[d.2.2.1.toNat]?).bind fun v0=>
 (if 0≤d.2.2.1 then(if d.2.2.1<(((d.2.2.2.set d.2.2.1.toNat (d.2.1,v0.2)).length:Nat):Int)then((d.2.2.2.set d.2.2.1.toNat (d.2.1,v0.2))[d.2.2.1.toNat]?).bind fun v1=>
 (if 0≤d.2.2.1 then(if d.2.2.1<((((d.2.2.2.set d.2.2.1.toNat (d.2.1,v0.2)).set d.2.2.1.toNat (v1.1,(wrapK .i64 (d.2.1+(1:Int))),v1.2.2)).length:Nat):Int)then(((d.2.2.2.set d.2.2.1.toNat (d.2.1,v0.2)).set d.2.2.1.toNat (v1.1,(wrapK .i64 (d.2.1+(1:Int))),v1.2.2))[d.2.2.1.toNat]?).bind fun v2=>
 (((d.2.2.2.set d.2.2.1.toNat (d.2.1,v0.2)).set d.2.2.1.toNat (v1.1,(wrapK .i64 (d.2.1+(1:Int))),v1.2.2))[d.2.2.1.toNat]?).bind fun v3=>
 (c_laws_markIntS k (v3.2.2,(wrapK .i64 ((wrapK .i64 (d.2.1+(1:Int)))+(1:Int))))).bind fun v4=>
 (((d.2.2.2.set d.2.2.1.toNat (d.2.1,v0.2)).set d.2.2.1.toNat (v1.1,(wrapK .i64 (d.2.1+(1:Int))),v1.2.2))[d.2.2.1.toNat]?).bind fun v5=>
 self ((),v4.1,(wrapK .i64 (d.2.2.1+(1:Int))),(((d.2.2.2.set d.2.2.1.toNat (d.2.1,v0.2)).set d.2.2.1.toNat (v1.1,(wrapK .i64 (d.2.1+(1:Int))),v1.2.2)).set d.2.2.1.toNat (v5.1,v5.2.1,v4.2)))else none)else none)else none)else none)else none)else none)else some (d.2.1,d.2.2.2))
def laws_markCredS(k:Nat)(x0:(List DCred))(x1:Int):Option (Int×(List DCred)):=
 iter k (laws_markCredS_l1 k) ((),x1,(0:Int),x0)
theorem laws_markCredS_run(k:Nat)(x0:(List DCred))(x1:Int):c_laws_markCredS (k+1) (x0,x1)=laws_markCredS k x0 x1:=by kernel_rfl
def laws_markText_l1(k:Nat)(self:_→Option ByteArray)(d:DWrite):=
 (bif (decide ((0:Int)<d.1))then(if((10:Int):Int)≠0 then(if(ofBytes ([(wrapK .u8 (wrapK .i64 ((48:Int)+(d.1.tmod (10:Int)))))]:List Int)).size+d.2.size≤9223372036854775807 then(if((10:Int):Int)≠0 then self ((wrapK .i64 (d.1.tdiv (10:Int))),((ofBytes ([(wrapK .u8 (wrapK .i64 ((48:Int)+(d.1.tmod (10:Int)))))]:List Int))++d.2))else none)else none)else none)else(if(⟨#[109]⟩:ByteArray).size+d.2.size≤9223372036854775807 then some ((⟨#[109]⟩:ByteArray)++d.2)else none))
def laws_markText(k:Nat)(x0:Int):Option ByteArray:=
 (bif (decide (x0≤(0:Int)))then some (⟨#[109,48]⟩:ByteArray)else iter k (laws_markText_l1 k) (x0,(⟨#[]⟩:ByteArray)))
theorem laws_markText_run(k:Nat)(x0:Int):c_laws_markText (k+1) (x0)=laws_markText k x0:=by kernel_rfl
def laws_heldStringS_l1(k:Nat)(self:_→Option Int)(d:((List ByteArray)×DQuota)):=
 (bif (decide (d.2.2<(d.1.length:Int)))then(if 0≤d.2.2 then(d.1[d.2.2.toNat]?).bind fun v0=>
 (c_laws_markText k d.2.1).bind fun v1=>
 (bif (!(eqS v0 v1))then some (-1:Int)else self (d.1,(wrapK .i64 (d.2.1+(1:Int))),(wrapK .i64 (d.2.2+(1:Int)))))else none)else some d.2.1)
def laws_heldStringS(k:Nat)(x0:(List ByteArray))(x1:Int):Option Int:=
 iter k (laws_heldStringS_l1 k) (x0,x1,(0:Int))
theorem laws_heldStringS_run(k:Nat)(x0:(List ByteArray))(x1:Int):c_laws_heldStringS (k+1) (x0,x1)=laws_heldStringS k x0 x1:=by kernel_rfl
def laws_heldWriteS_l1(k:Nat)(self:_→Option Int)(d:((List DWrite)×DQuota)):=
 (bif (decide (d.2.2<(d.1.length:Int)))then(if 0≤d.2.2 then(d.1[d.2.2.toNat]?).bind fun v0=>
 (bif (v0.1 != d.2.1)then some (-1:Int)else(if 0≤d.2.2 then(d.1[d.2.2.toNat]?).bind fun v1=>
 (c_laws_markText k (wrapK .i64 (d.2.1+(1:Int)))).bind fun v2=>
 (bif (!(eqS v1.2 v2))then some (-1:Int)else self (d.1,(wrapK .i64 ((wrapK .i64 (d.2.1+(1:Int)))+(1:Int))),(wrapK .i64 (d.2.2+(1:Int)))))else none))else none)else some d.2.1)
def laws_heldWriteS(k:Nat)(x0:(List DWrite))(x1:Int):Option Int:=
 iter k (laws_heldWriteS_l1 k) (x0,x1,(0:Int))
theorem laws_heldWriteS_run(k:Nat)(x0:(List DWrite))(x1:Int):c_laws_heldWriteS (k+1) (x0,x1)=laws_heldWriteS k x0 x1:=by kernel_rfl
def laws_heldDisk(k:Nat)(x0:DDisk)(x1:Int):Option Int:=
 (c_laws_heldStringS k (x0.1,x1)).bind fun y1=>
 (bif (decide (y1<(0:Int)))then some (-1:Int)else(c_laws_heldWriteS k (x0.2,y1)).bind fun y2=>
 (bif (decide (y2<(0:Int)))then some (-1:Int)else some y2))
theorem laws_heldDisk_run(k:Nat)(x0:DDisk)(x1:Int):c_laws_heldDisk (k+1) (x0,x1)=laws_heldDisk k x0 x1:=by kernel_rfl
def laws_heldQuotaS_l1(k:Nat)(self:_→Option Int)(d:((List DQuota)×DQuota)):=
 (bif (decide (d.2.2<(d.1.length:Int)))then(if 0≤d.2.2 then(d.1[d.2.2.toNat]?).bind fun v0=>
 (bif (v0.1 != d.2.1)then some (-1:Int)else(if 0≤d.2.2 then(d.1[d.2.2.toNat]?).bind fun v1=>
 (bif (v1.2 != (wrapK .i64 (d.2.1+(1:Int))))then some (-1:Int)else self (d.1,(wrapK .i64 ((wrapK .i64 (d.2.1+(1:Int)))+(1:Int))),(wrapK .i64 (d.2.2+(1:Int)))))else none))else none)else some d.2.1)
def laws_heldQuotaS(k:Nat)(x0:(List DQuota))(x1:Int):Option Int:=
 iter k (laws_heldQuotaS_l1 k) (x0,x1,(0:Int))
theorem laws_heldQuotaS_run(k:Nat)(x0:(List DQuota))(x1:Int):c_laws_heldQuotaS (k+1) (x0,x1)=laws_heldQuotaS k x0 x1:=by kernel_rfl
def laws_heldIntS_l1(k:Nat)(self:_→Option Int)(d:((List Int)×DQuota)):=
 (bif (decide (d.2.2<(d.1.length:Int)))then(if 0≤d.2.2 then(d.1[d.2.2.toNat]?).bind fun v0=>
 (bif (v0 != d.2.1)then some (-1:Int)else self (d.1,(wrapK .i64 (d.2.1+(1:Int))),(wrapK .i64 (d.2.2+(1:Int)))))else none)else some d.2.1)
def laws_heldIntS(k:Nat)(x0:(List Int))(x1:Int):Option Int:=
 iter k (laws_heldIntS_l1 k) (x0,x1,(0:Int))
theorem laws_heldIntS_run(k:Nat)(x0:(List Int))(x1:Int):c_laws_heldIntS (k+1) (x0,x1)=laws_heldIntS k x0 x1:=by kernel_rfl
def laws_heldAclEntryS_l1(k:Nat)(self:_→Option Int)(d:((List DOpen)×DQuota)):=
 (bif (decide (d.2.2<(d.1.length:Int)))then(if 0≤d.2.2 then(d.1[d.2.2.toNat]?).bind fun v0=>
 (bif (v0.1 != d.2.1)then some (-1:Int)else(if 0≤d.2.2 then(d.1[d.2.2.toNat]?).bind fun v1=>
 (bif (v1.2.1 != (wrapK .i64 (d.2.1+(1:Int))))then some (-1:Int)else(if 0≤d.2.2 then(d.1[d.2.2.toNat]?).bind fun v2=>
 (bif (v2.2.2 != (wrapK .i64 ((wrapK .i64 (d.2.1+(1:Int)))+(1:Int))))then some (-1:Int)else self (d.1,(wrapK .i64 ((wrapK .i64 ((wrapK .i64 (d.2.1+(1:Int)))+(1:Int)))+(1:Int))),(wrapK .i64 (d.2.2+(1:Int)))))else none))else none))else none)else some d.2.1)
def laws_heldAclEntryS(k:Nat)(x0:(List DOpen))(x1:Int):Option Int:=
 iter k (laws_heldAclEntryS_l1 k) (x0,x1,(0:Int))
theorem laws_heldAclEntryS_run(k:Nat)(x0:(List DOpen))(x1:Int):c_laws_heldAclEntryS (k+1) (x0,x1)=laws_heldAclEntryS k x0 x1:=by kernel_rfl
def laws_heldInodeS_l1(k:Nat)(self:_→Option Int)(d:((List DInode)×DQuota)):=
 (bif (decide (d.2.2<(d.1.length:Int)))then(if 0≤d.2.2 then(d.1[d.2.2.toNat]?).bind fun v0=>
 (bif (v0.1 != d.2.1)then some (-1:Int)else(if 0≤d.2.2 then(d.1[d.2.2.toNat]?).bind fun v1=>
 (bif (v1.2.1 != (wrapK .i64 (d.2.1+(1:Int))))then some (-1:Int)else(if 0≤d.2.2 then(d.1[d.2.2.toNat]?).bind fun v2=>
 (bif (v2.2.2.1 != (wrapK .i64 ((wrapK .i64 (d.2.1+(1:Int)))+(1:Int))))then some (-1:Int)else(if 0≤d.2.2 then(d.1[d.2.2.toNat]?).bind fun v3=>
 (bif (v3.2.2.2.1 != (wrapK .i64 ((wrapK .i64 ((wrapK .i64 (d.2.1+(1:Int)))+(1:Int)))+(1:Int))))then some (-1:Int)else(if 0≤d.2.2 then(d.1[d.2.2.toNat]?).bind fun v4=>
 (bif (v4.2.2.2.2.1 != (wrapK .i64 ((wrapK .i64 ((wrapK .i64 ((wrapK .i64 (d.2.1+(1:Int)))+(1:Int)))+(1:Int)))+(1:Int))))then some (-1:Int)else(if 0≤d.2.2 then(d.1[d.2.2.toNat]?).bind fun v5=>
 (bif (v5.2.2.2.2.2.1 != (wrapK .i64 ((wrapK .i64 ((wrapK .i64 ((wrapK .i64 ((wrapK .i64 (d.2.1+(1:Int)))+(1:Int)))+(1:Int)))+(1:Int)))+(1:Int))))then some (-1:Int)else(if 0≤d.2.2 then(d.1[d.2.2.toNat]?).bind fun v6=>
 (bif (v6.2.2.2.2.2.2.1 != (wrapK .i64 ((wrapK .i64 ((wrapK .i64 ((wrapK .i64 ((wrapK .i64 ((wrapK .i64 (d.2.1+(1:Int)))+(1:Int)))+(1:Int)))+(1:Int)))+(1:Int)))+(1:Int))))then some (-1:Int)else(if 0≤d.2.2 then(d.1[d.2.2.toNat]?).bind fun v7=>
 (c_laws_heldIntS k (v7.2.2.2.2.2.2.2.1,(wrapK .i64 ((wrapK .i64 ((wrapK .i64 ((wrapK .i64 ((wrapK .i64 ((wrapK .i64 ((wrapK .i64 (d.2.1+(1:Int)))+(1:Int)))+(1:Int)))+(1:Int)))+(1:Int)))+(1:Int)))+(1:Int))))).bind fun v8=>
 (bif (decide (v8<(0:Int)))then some (-1:Int)else(if 0≤d.2.2 then(d.1[d.2.2.toNat]?).bind fun v9=>
 (c_laws_heldAclEntryS k (v9.2.2.2.2.2.2.2.2.1,v8)).bind fun v10=>
 (bif (decide (v10<(0:Int)))then some (-1:Int)else(if 0≤d.2.2 then(d.1[d.2.2.toNat]?).bind fun v11=>
 (c_laws_heldAclEntryS k (v11.2.2.2.2.2.2.2.2.2,v10)).bind fun v12=>
 (bif (decide (v12<(0:Int)))then some (-1:Int)else self (d.1,v12,(wrapK .i64 (d.2.2+(1:Int)))))else none))else none))else none))else none))else none))else none))else none))else none))else none))else none)else some d.2.1)
def laws_heldInodeS(k:Nat)(x0:(List DInode))(x1:Int):Option Int:=
 iter k (laws_heldInodeS_l1 k) (x0,x1,(0:Int))
theorem laws_heldInodeS_run(k:Nat)(x0:(List DInode))(x1:Int):c_laws_heldInodeS (k+1) (x0,x1)=laws_heldInodeS k x0 x1:=by kernel_rfl
def laws_heldFS(k:Nat)(x0:DFS)(x1:Int):Option Int:=
 (c_laws_heldQuotaS k (x0.2.1,x1)).bind fun y1=>
 (bif (decide (y1<(0:Int)))then some (-1:Int)else(c_laws_heldInodeS k (x0.2.2.1,y1)).bind fun y2=>
 (bif (decide (y2<(0:Int)))then some (-1:Int)else(c_laws_heldStringS k (x0.2.2.2,y2)).bind fun y3=>
 (bif (decide (y3<(0:Int)))then some (-1:Int)else some y3)))
theorem laws_heldFS_run(k:Nat)(x0:DFS)(x1:Int):c_laws_heldFS (k+1) (x0,x1)=laws_heldFS k x0 x1:=by kernel_rfl
def laws_heldOpenS_l1(k:Nat)(self:_→Option Int)(d:((List DOpen)×DQuota)):=
 (bif (decide (d.2.2<(d.1.length:Int)))then(if 0≤d.2.2 then(d.1[d.2.2.toNat]?).bind fun v0=>
 (bif (v0.1 != d.2.1)then some (-1:Int)else(if 0≤d.2.2 then(d.1[d.2.2.toNat]?).bind fun v1=>
 (bif (v1.2.1 != (wrapK .i64 (d.2.1+(1:Int))))then some (-1:Int)else(if 0≤d.2.2 then(d.1[d.2.2.toNat]?).bind fun v2=>
 (bif (v2.2.2 != (wrapK .i64 ((wrapK .i64 (d.2.1+(1:Int)))+(1:Int))))then some (-1:Int)else self (d.1,(wrapK .i64 ((wrapK .i64 ((wrapK .i64 (d.2.1+(1:Int)))+(1:Int)))+(1:Int))),(wrapK .i64 (d.2.2+(1:Int)))))else none))else none))else none)else some d.2.1)
def laws_heldOpenS(k:Nat)(x0:(List DOpen))(x1:Int):Option Int:=
 iter k (laws_heldOpenS_l1 k) (x0,x1,(0:Int))
theorem laws_heldOpenS_run(k:Nat)(x0:(List DOpen))(x1:Int):c_laws_heldOpenS (k+1) (x0,x1)=laws_heldOpenS k x0 x1:=by kernel_rfl
def laws_heldProcS_l1(k:Nat)(self:_→Option Int)(d:((List DProc)×DQuota)):=
 (bif (decide (d.2.2<(d.1.length:Int)))then(if 0≤d.2.2 then(d.1[d.2.2.toNat]?).bind fun v0=>
 (bif (v0.1.1 != d.2.1)then some (-1:Int)else(if 0≤d.2.2 then(d.1[d.2.2.toNat]?).bind fun v1=>
 (bif (v1.1.2.1 != (wrapK .i64 (d.2.1+(1:Int))))then some (-1:Int)else(if 0≤d.2.2 then(d.1[d.2.2.toNat]?).bind fun v2=>
 (c_laws_heldIntS k (v2.1.2.2,(wrapK .i64 ((wrapK .i64 (d.2.1+(1:Int)))+(1:Int))))).bind fun v3=>
 (bif (decide (v3<(0:Int)))then some (-1:Int)else(if 0≤d.2.2 then(d.1[d.2.2.toNat]?).bind fun v4=>
 (c_laws_heldOpenS k (v4.2,v3)).bind fun v5=>
 (bif (decide (v5<(0:Int)))then some (-1:Int)else self (d.1,v5,(wrapK .i64 (d.2.2+(1:Int)))))else none))else none))else none))else none)else some d.2.1)
def laws_heldProcS(k:Nat)(x0:(List DProc))(x1:Int):Option Int:=
 iter k (laws_heldProcS_l1 k) (x0,x1,(0:Int))
theorem laws_heldProcS_run(k:Nat)(x0:(List DProc))(x1:Int):c_laws_heldProcS (k+1) (x0,x1)=laws_heldProcS k x0 x1:=by kernel_rfl
def laws_heldSystem(k:Nat)(x0:DSystem)(x1:Int):Option Int:=
 (c_laws_heldFS k (x0.1,x1)).bind fun y1=>
 (bif (decide (y1<(0:Int)))then some (-1:Int)else(c_laws_heldProcS k (x0.2,y1)).bind fun y2=>
 (bif (decide (y2<(0:Int)))then some (-1:Int)else some y2))
theorem laws_heldSystem_run(k:Nat)(x0:DSystem)(x1:Int):c_laws_heldSystem (k+1) (x0,x1)=laws_heldSystem k x0 x1:=by kernel_rfl
def laws_heldMachine(k:Nat)(x0:DMachine)(x1:Int):Option Int:=
 (c_laws_heldDisk k (x0.1,x1)).bind fun y1=>
 (bif (decide (y1<(0:Int)))then some (-1:Int)else(c_laws_heldSystem k (x0.2.2,y1)).bind fun y2=>
 (bif (decide (y2<(0:Int)))then some (-1:Int)else some y2))
theorem laws_heldMachine_run(k:Nat)(x0:DMachine)(x1:Int):c_laws_heldMachine (k+1) (x0,x1)=laws_heldMachine k x0 x1:=by kernel_rfl
def laws_markQuotaS_l1(k:Nat)(self:_→Option (Int×(List DQuota)))(d:(Unit×(Int×(Int×(List DQuota))))):=
 (bif (decide (d.2.2.1<(d.2.2.2.length:Int)))then(if 0≤d.2.2.1 then(if d.2.2.1<(d.2.2.2.length:Int)then(d.2.2.2[d.2.2.1.toNat]?).bind fun v0=>
 (if 0≤d.2.2.1 then(if d.2.2.1<(((d.2.2.2.set d.2.2.1.toNat (d.2.1,v0.2)).length:Nat):Int)then((d.2.2.2.set d.2.2.1.toNat (d.2.1,v0.2))[d.2.2.1.toNat]?).bind fun v1=>
 self ((),(wrapK .i64 ((wrapK .i64 (d.2.1+(1:Int)))+(1:Int))),(wrapK .i64 (d.2.2.1+(1:Int))),((d.2.2.2.set d.2.2.1.toNat (d.2.1,v0.2)).set d.2.2.1.toNat (v1.1,(wrapK .i64 (d.2.1+(1:Int))))))else none)else none)else none)else none)else some (d.2.1,d.2.2.2))
def laws_markQuotaS(k:Nat)(x0:(List DQuota))(x1:Int):Option (Int×(List DQuota)):=
 iter k (laws_markQuotaS_l1 k) ((),x1,(0:Int),x0)
theorem laws_markQuotaS_run(k:Nat)(x0:(List DQuota))(x1:Int):c_laws_markQuotaS (k+1) (x0,x1)=laws_markQuotaS k x0 x1:=by kernel_rfl
def laws_markAclEntryS_l1(k:Nat)(self:_→Option (Int×(List DOpen)))(d:(Unit×(Int×(Int×(List DOpen))))):=
 (bif (decide (d.2.2.1<(d.2.2.2.length:Int)))then(if 0≤d.2.2.1 then(if d.2.2.1<(d.2.2.2.length:Int)then(d.2.2.2[d.2.2.1.toNat]?).bind fun v0=>
 (if 0≤d.2.2.1 then(if d.2.2.1<(((d.2.2.2.set d.2.2.1.toNat (d.2.1,v0.2)).length:Nat):Int)then((d.2.2.2.set d.2.2.1.toNat (d.2.1,v0.2))[d.2.2.1.toNat]?).bind fun v1=>
 (if 0≤d.2.2.1 then(if d.2.2.1<((((d.2.2.2.set d.2.2.1.toNat (d.2.1,v0.2)).set d.2.2.1.toNat (v1.1,(wrapK .i64 (d.2.1+(1:Int))),v1.2.2)).length:Nat):Int)then(((d.2.2.2.set d.2.2.1.toNat (d.2.1,v0.2)).set d.2.2.1.toNat (v1.1,(wrapK .i64 (d.2.1+(1:Int))),v1.2.2))[d.2.2.1.toNat]?).bind fun v2=>
 self ((),(wrapK .i64 ((wrapK .i64 ((wrapK .i64 (d.2.1+(1:Int)))+(1:Int)))+(1:Int))),(wrapK .i64 (d.2.2.1+(1:Int))),(((d.2.2.2.set d.2.2.1.toNat (d.2.1,v0.2)).set d.2.2.1.toNat (v1.1,(wrapK .i64 (d.2.1+(1:Int))),v1.2.2)).set d.2.2.1.toNat (v2.1,v2.2.1,(wrapK .i64 ((wrapK .i64 (d.2.1+(1:Int)))+(1:Int))))))else none)else none)else none)else none)else none)else none)else some (d.2.1,d.2.2.2))
def laws_markAclEntryS(k:Nat)(x0:(List DOpen))(x1:Int):Option (Int×(List DOpen)):=
 iter k (laws_markAclEntryS_l1 k) ((),x1,(0:Int),x0)
theorem laws_markAclEntryS_run(k:Nat)(x0:(List DOpen))(x1:Int):c_laws_markAclEntryS (k+1) (x0,x1)=laws_markAclEntryS k x0 x1:=by kernel_rfl
def laws_markInodeS_l1(k:Nat)(self:_→Option (Int×(List DInode)))(d:(Unit×(Int×(Int×(List DInode))))):=
 (bif (decide (d.2.2.1<(d.2.2.2.length:Int)))then(if 0≤d.2.2.1 then(if d.2.2.1<(d.2.2.2.length:Int)then(d.2.2.2[d.2.2.1.toNat]?).bind fun v0=>
 (if 0≤d.2.2.1 then(if d.2.2.1<(((d.2.2.2.set d.2.2.1.toNat (d.2.1,v0.2)).length:Nat):Int)then((d.2.2.2.set d.2.2.1.toNat (d.2.1,v0.2))[d.2.2.1.toNat]?).bind fun v1=>
 (if 0≤d.2.2.1 then(if d.2.2.1<((((d.2.2.2.set d.2.2.1.toNat (d.2.1,v0.2)).set d.2.2.1.toNat (v1.1,(wrapK .i64 (d.2.1+(1:Int))),v1.2.2)).length:Nat):Int)then(((d.2.2.2.set d.2.2.1.toNat (d.2.1,v0.2)).set d.2.2.1.toNat (v1.1,(wrapK .i64 (d.2.1+(1:Int))),v1.2.2))[d.2.2.1.toNat]?).bind fun v2=>
 (if 0≤d.2.2.1 then(if d.2.2.1<(((((d.2.2.2.set d.2.2.1.toNat (d.2.1,v0.2)).set d.2.2.1.toNat (v1.1,(wrapK .i64 (d.2.1+(1:Int))),v1.2.2)).set d.2.2.1.toNat (v2.1,v2.2.1,(wrapK .i64 ((wrapK .i64 (d.2.1+(1:Int)))+(1:Int))),v2.2.2.2)).length:Nat):Int)then((((d.2.2.2.set d.2.2.1.toNat (d.2.1,v0.2)).set d.2.2.1.toNat (v1.1,(wrapK .i64 (d.2.1+(1:Int))),v1.2.2)).set d.2.2.1.toNat (v2.1,v2.2.1,(wrapK .i64 ((wrapK .i64 (d.2.1+(1:Int)))+(1:Int))),v2.2.2.2))[d.2.2.1.toNat]?).bind fun v3=>
 (if 0≤d.2.2.1 then(if d.2.2.1<((((((d.2.2.2.set d.2.2.1.toNat (d.2.1,v0.2)).set d.2.2.1.toNat (v1.1,(wrapK .i64 (d.2.1+(1:Int))),v1.2.2)).set d.2.2.1.toNat (v2.1,v2.2.1,(wrapK .i64 ((wrapK .i64 (d.2.1+(1:Int)))+(1:Int))),v2.2.2.2)).set d.2.2.1.toNat (v3.1,v3.2.1,v3.2.2.1,(wrapK .i64 ((wrapK .i64 ((wrapK .i64 (d.2.1+(1:Int)))+(1:Int)))+(1:Int))),v3.2.2.2.2)).length:Nat):Int)then(((((d.2.2.2.set d.2.2.1.toNat (d.2.1,v0.2)).set d.2.2.1.toNat (v1.1,(wrapK .i64 (d.2.1+(1:Int))),v1.2.2)).set d.2.2.1.toNat (v2.1,v2.2.1,(wrapK .i64 ((wrapK .i64 (d.2.1+(1:Int)))+(1:Int))),v2.2.2.2)).set d.2.2.1.toNat (v3.1,v3.2.1,v3.2.2.1,(wrapK .i64 ((wrapK .i64 ((wrapK .i64 (d.2.1+(1:Int)))+(1:Int)))+(1:Int))),v3.2.2.2.2))[d.2.2.1.toNat]?).bind fun v4=>
 (if 0≤d.2.2.1 then(if d.2.2.1<(((((((d.2.2.2.set d.2.2.1.toNat (d.2.1,v0.2)).set d.2.2.1.toNat (v1.1,(wrapK .i64 (d.2.1+(1:Int))),v1.2.2)).set d.2.2.1.toNat (v2.1,v2.2.1,(wrapK .i64 ((wrapK .i64 (d.2.1+(1:Int)))+(1:Int))),v2.2.2.2)).set d.2.2.1.toNat (v3.1,v3.2.1,v3.2.2.1,(wrapK .i64 ((wrapK .i64 ((wrapK .i64 (d.2.1+(1:Int)))+(1:Int)))+(1:Int))),v3.2.2.2.2)).set d.2.2.1.toNat (v4.1,v4.2.1,v4.2.2.1,v4.2.2.2.1,(wrapK .i64 ((wrapK .i64 ((wrapK .i64 ((wrapK .i64 (d.2.1+(1:Int)))+(1:Int)))+(1:Int)))+(1:Int))),v4.2.2.2.2.2)).length:Nat):Int)then((((((d.2.2.2.set d.2.2.1.toNat (d.2.1,v0.2)).set d.2.2.1.toNat (v1.1,(wrapK .i64 (d.2.1+(1:Int))),v1.2.2)).set d.2.2.1.toNat (v2.1,v2.2.1,(wrapK .i64 ((wrapK .i64 (d.2.1+(1:Int)))+(1:Int))),v2.2.2.2)).set d.2.2.1.toNat (v3.1,v3.2.1,v3.2.2.1,(wrapK .i64 ((wrapK .i64 ((wrapK .i64 (d.2.1+(1:Int)))+(1:Int)))+(1:Int))),v3.2.2.2.2)).set d.2.2.1.toNat (v4.1,v4.2.1,v4.2.2.1,v4.2.2.2.1,(wrapK .i64 ((wrapK .i64 ((wrapK .i64 ((wrapK .i64 (d.2.1+(1:Int)))+(1:Int)))+(1:Int)))+(1:Int))),v4.2.2.2.2.2))[d.2.2.1.toNat]?).bind fun v5=>
 (if 0≤d.2.2.1 then(if d.2.2.1<((((((((d.2.2.2.set d.2.2.1.toNat (d.2.1,v0.2)).set d.2.2.1.toNat (v1.1,(wrapK .i64 (d.2.1+(1:Int))),v1.2.2)).set d.2.2.1.toNat (v2.1,v2.2.1,(wrapK .i64 ((wrapK .i64 (d.2.1+(1:Int)))+(1:Int))),v2.2.2.2)).set d.2.2.1.toNat (v3.1,v3.2.1,v3.2.2.1,(wrapK .i64 ((wrapK .i64 ((wrapK .i64 (d.2.1+(1:Int)))+(1:Int)))+(1:Int))),v3.2.2.2.2)).set d.2.2.1.toNat (v4.1,v4.2.1,v4.2.2.1,v4.2.2.2.1,(wrapK .i64 ((wrapK .i64 ((wrapK .i64 ((wrapK .i64 (d.2.1+(1:Int)))+(1:Int)))+(1:Int)))+(1:Int))),v4.2.2.2.2.2)).set d.2.2.1.toNat (v5.1,v5.2.1,v5.2.2.1,v5.2.2.2.1,v5.2.2.2.2.1,(wrapK .i64 ((wrapK .i64 ((wrapK .i64 ((wrapK .i64 ((wrapK .i64 (d.2.1+(1:Int)))+(1:Int)))+(1:Int)))+(1:Int)))+(1:Int))),v5.2.2.2.2.2.2)).length:Nat):Int)then(((((((d.2.2.2.set d.2.2.1.toNat (d.2.1,v0.2)).set d.2.2.1.toNat (v1.1,(wrapK .i64 (d.2.1+(1:Int))),v1.2.2)).set d.2.2.1.toNat (v2.1,v2.2.1,(wrapK .i64 ((wrapK .i64 (d.2.1+(1:Int)))+(1:Int))),v2.2.2.2)).set d.2.2.1.toNat (v3.1,v3.2.1,v3.2.2.1,(wrapK .i64 ((wrapK .i64 ((wrapK .i64 (d.2.1+(1:Int)))+(1:Int)))+(1:Int))),v3.2.2.2.2)).set d.2.2.1.toNat (v4.1,v4.2.1,v4.2.2.1,v4.2.2.2.1,(wrapK .i64 ((wrapK .i64 ((wrapK .i64 ((wrapK .i64 (d.2.1+(1:Int)))+(1:Int)))+(1:Int)))+(1:Int))),v4.2.2.2.2.2)).set d.2.2.1.toNat (v5.1,v5.2.1,v5.2.2.1,v5.2.2.2.1,v5.2.2.2.2.1,(wrapK .i64 ((wrapK .i64 ((wrapK .i64 ((wrapK .i64 ((wrapK .i64 (d.2.1+(1:Int)))+(1:Int)))+(1:Int)))+(1:Int)))+(1:Int))),v5.2.2.2.2.2.2))[d.2.2.1.toNat]?).bind fun v6=>
 (if 0≤d.2.2.1 then(if d.2.2.1<(((((((((d.2.2.2.set d.2.2.1.toNat (d.2.1,v0.2)).set d.2.2.1.toNat (v1.1,(wrapK .i64 (d.2.1+(1:Int))),v1.2.2)).set d.2.2.1.toNat (v2.1,v2.2.1,(wrapK .i64 ((wrapK .i64 (d.2.1+(1:Int)))+(1:Int))),v2.2.2.2)).set d.2.2.1.toNat (v3.1,v3.2.1,v3.2.2.1,(wrapK .i64 ((wrapK .i64 ((wrapK .i64 (d.2.1+(1:Int)))+(1:Int)))+(1:Int))),v3.2.2.2.2)).set d.2.2.1.toNat (v4.1,v4.2.1,v4.2.2.1,v4.2.2.2.1,(wrapK .i64 ((wrapK .i64 ((wrapK .i64 ((wrapK .i64 (d.2.1+(1:Int)))+(1:Int)))+(1:Int)))+(1:Int))),v4.2.2.2.2.2)).set d.2.2.1.toNat (v5.1,v5.2.1,v5.2.2.1,v5.2.2.2.1,v5.2.2.2.2.1,(wrapK .i64 ((wrapK .i64 ((wrapK .i64 ((wrapK .i64 ((wrapK .i64 (d.2.1+(1:Int)))+(1:Int)))+(1:Int)))+(1:Int)))+(1:Int))),v5.2.2.2.2.2.2)).set d.2.2.1.toNat (v6.1,v6.2.1,v6.2.2.1,v6.2.2.2.1,v6.2.2.2.2.1,v6.2.2.2.2.2.1,(wrapK .i64 ((wrapK .i64 ((wrapK .i64 ((wrapK .i64 ((wrapK .i64 ((wrapK .i64 (d.2.1+(1:Int)))+(1:Int)))+(1:Int)))+(1:Int)))+(1:Int)))+(1:Int))),v6.2.2.2.2.2.2.2)).length:Nat):Int)then((((((((d.2.2.2.set d.2.2.1.toNat (d.2.1,v0.2)).set d.2.2.1.toNat (v1.1,(wrapK .i64 (d.2.1+(1:Int))),v1.2.2)).set d.2.2.1.toNat (v2.1,v2.2.1,(wrapK .i64 ((wrapK .i64 (d.2.1+(1:Int)))+(1:Int))),v2.2.2.2)).set d.2.2.1.toNat (v3.1,v3.2.1,v3.2.2.1,(wrapK .i64 ((wrapK .i64 ((wrapK .i64 (d.2.1+(1:Int)))+(1:Int)))+(1:Int))),v3.2.2.2.2)).set d.2.2.1.toNat (v4.1,v4.2.1,v4.2.2.1,v4.2.2.2.1,(wrapK .i64 ((wrapK .i64 ((wrapK .i64 ((wrapK .i64 (d.2.1+(1:Int)))+(1:Int)))+(1:Int)))+(1:Int))),v4.2.2.2.2.2)).set d.2.2.1.toNat (v5.1,v5.2.1,v5.2.2.1,v5.2.2.2.1,v5.2.2.2.2.1,(wrapK .i64 ((wrapK .i64 ((wrapK .i64 ((wrapK .i64 ((wrapK .i64 (d.2.1+(1:Int)))+(1:Int)))+(1:Int)))+(1:Int)))+(1:Int))),v5.2.2.2.2.2.2)).set d.2.2.1.toNat (v6.1,v6.2.1,v6.2.2.1,v6.2.2.2.1,v6.2.2.2.2.1,v6.2.2.2.2.2.1,(wrapK .i64 ((wrapK .i64 ((wrapK .i64 ((wrapK .i64 ((wrapK .i64 ((wrapK .i64 (d.2.1+(1:Int)))+(1:Int)))+(1:Int)))+(1:Int)))+(1:Int)))+(1:Int))),v6.2.2.2.2.2.2.2))[d.2.2.1.toNat]?).bind fun v7=>
 ((((((((d.2.2.2.set d.2.2.1.toNat (d.2.1,v0.2)).set d.2.2.1.toNat (v1.1,(wrapK .i64 (d.2.1+(1:Int))),v1.2.2)).set d.2.2.1.toNat (v2.1,v2.2.1,(wrapK .i64 ((wrapK .i64 (d.2.1+(1:Int)))+(1:Int))),v2.2.2.2)).set d.2.2.1.toNat (v3.1,v3.2.1,v3.2.2.1,(wrapK .i64 ((wrapK .i64 ((wrapK .i64 (d.2.1+(1:Int)))+(1:Int)))+(1:Int))),v3.2.2.2.2)).set d.2.2.1.toNat (v4.1,v4.2.1,v4.2.2.1,v4.2.2.2.1,(wrapK .i64 ((wrapK .i64 ((wrapK .i64 ((wrapK .i64 (d.2.1+(1:Int)))+(1:Int)))+(1:Int)))+(1:Int))),v4.2.2.2.2.2)).set d.2.2.1.toNat (v5.1,v5.2.1,v5.2.2.1,v5.2.2.2.1,v5.2.2.2.2.1,(wrapK .i64 ((wrapK .i64 ((wrapK .i64 ((wrapK .i64 ((wrapK .i64 (d.2.1+(1:Int)))+(1:Int)))+(1:Int)))+(1:Int)))+(1:Int))),v5.2.2.2.2.2.2)).set d.2.2.1.toNat (v6.1,v6.2.1,v6.2.2.1,v6.2.2.2.1,v6.2.2.2.2.1,v6.2.2.2.2.2.1,(wrapK .i64 ((wrapK .i64 ((wrapK .i64 ((wrapK .i64 ((wrapK .i64 ((wrapK .i64 (d.2.1+(1:Int)))+(1:Int)))+(1:Int)))+(1:Int)))+(1:Int)))+(1:Int))),v6.2.2.2.2.2.2.2))[d.2.2.1.toNat]?).bind fun v8=>
 (c_laws_markIntS k (v8.2.2.2.2.2.2.2.1,(wrapK .i64 ((wrapK .i64 ((wrapK .i64 ((wrapK .i64 ((wrapK .i64 ((wrapK .i64 ((wrapK .i64 (d.2.1+(1:Int)))+(1:Int)))+(1:Int)))+(1:Int)))+(1:Int)))+(1:Int)))+(1:Int))))).bind fun v9=>
 ((((((((d.2.2.2.set d.2.2.1.toNat (d.2.1,v0.2)).set d.2.2.1.toNat (v1.1,(wrapK .i64 (d.2.1+(1:Int))),v1.2.2)).set d.2.2.1.toNat (v2.1,v2.2.1,(wrapK .i64 ((wrapK .i64 (d.2.1+(1:Int)))+(1:Int))),v2.2.2.2)).set d.2.2.1.toNat (v3.1,v3.2.1,v3.2.2.1,(wrapK .i64 ((wrapK .i64 ((wrapK .i64 (d.2.1+(1:Int)))+(1:Int)))+(1:Int))),v3.2.2.2.2)).set d.2.2.1.toNat (v4.1,v4.2.1,v4.2.2.1,v4.2.2.2.1,(wrapK .i64 ((wrapK .i64 ((wrapK .i64 ((wrapK .i64 (d.2.1+(1:Int)))+(1:Int)))+(1:Int)))+(1:Int))),v4.2.2.2.2.2)).set d.2.2.1.toNat (v5.1,v5.2.1,v5.2.2.1,v5.2.2.2.1,v5.2.2.2.2.1,(wrapK .i64 ((wrapK .i64 ((wrapK .i64 ((wrapK .i64 ((wrapK .i64 (d.2.1+(1:Int)))+(1:Int)))+(1:Int)))+(1:Int)))+(1:Int))),v5.2.2.2.2.2.2)).set d.2.2.1.toNat (v6.1,v6.2.1,v6.2.2.1,v6.2.2.2.1,v6.2.2.2.2.1,v6.2.2.2.2.2.1,(wrapK .i64 ((wrapK .i64 ((wrapK .i64 ((wrapK .i64 ((wrapK .i64 ((wrapK .i64 (d.2.1+(1:Int)))+(1:Int)))+(1:Int)))+(1:Int)))+(1:Int)))+(1:Int))),v6.2.2.2.2.2.2.2))[d.2.2.1.toNat]?).bind fun v10=>
 (if 0≤d.2.2.1 then(if d.2.2.1<((((((((((d.2.2.2.set d.2.2.1.toNat (d.2.1,v0.2)).set d.2.2.1.toNat (v1.1,(wrapK .i64 (d.2.1+(1:Int))),v1.2.2)).set d.2.2.1.toNat (v2.1,v2.2.1,(wrapK .i64 ((wrapK .i64 (d.2.1+(1:Int)))+(1:Int))),v2.2.2.2)).set d.2.2.1.toNat (v3.1,v3.2.1,v3.2.2.1,(wrapK .i64 ((wrapK .i64 ((wrapK .i64 (d.2.1+(1:Int)))+(1:Int)))+(1:Int))),v3.2.2.2.2)).set d.2.2.1.toNat (v4.1,v4.2.1,v4.2.2.1,v4.2.2.2.1,(wrapK .i64 ((wrapK .i64 ((wrapK .i64 ((wrapK .i64 (d.2.1+(1:Int)))+(1:Int)))+(1:Int)))+(1:Int))),v4.2.2.2.2.2)).set d.2.2.1.toNat (v5.1,v5.2.1,v5.2.2.1,v5.2.2.2.1,v5.2.2.2.2.1,(wrapK .i64 ((wrapK .i64 ((wrapK .i64 ((wrapK .i64 ((wrapK .i64 (d.2.1+(1:Int)))+(1:Int)))+(1:Int)))+(1:Int)))+(1:Int))),v5.2.2.2.2.2.2)).set d.2.2.1.toNat (v6.1,v6.2.1,v6.2.2.1,v6.2.2.2.1,v6.2.2.2.2.1,v6.2.2.2.2.2.1,(wrapK .i64 ((wrapK .i64 ((wrapK .i64 ((wrapK .i64 ((wrapK .i64 ((wrapK .i64 (d.2.1+(1:Int)))+(1:Int)))+(1:Int)))+(1:Int)))+(1:Int)))+(1:Int))),v6.2.2.2.2.2.2.2)).set d.2.2.1.toNat (v10.1,v10.2.1,v10.2.2.1,v10.2.2.2.1,v10.2.2.2.2.1,v10.2.2.2.2.2.1,v10.2.2.2.2.2.2.1,v9.2,v10.2.2.2.2.2.2.2.2)).length:Nat):Int)then(((((((((d.2.2.2.set d.2.2.1.toNat (d.2.1,v0.2)).set d.2.2.1.toNat (v1.1,(wrapK .i64 (d.2.1+(1:Int))),v1.2.2)).set d.2.2.1.toNat (v2.1,v2.2.1,(wrapK .i64 ((wrapK .i64 (d.2.1+(1:Int)))+(1:Int))),v2.2.2.2)).set d.2.2.1.toNat (v3.1,v3.2.1,v3.2.2.1,(wrapK .i64 ((wrapK .i64 ((wrapK .i64 (d.2.1+(1:Int)))+(1:Int)))+(1:Int))),v3.2.2.2.2)).set d.2.2.1.toNat (v4.1,v4.2.1,v4.2.2.1,v4.2.2.2.1,(wrapK .i64 ((wrapK .i64 ((wrapK .i64 ((wrapK .i64 (d.2.1+(1:Int)))+(1:Int)))+(1:Int)))+(1:Int))),v4.2.2.2.2.2)).set d.2.2.1.toNat (v5.1,v5.2.1,v5.2.2.1,v5.2.2.2.1,v5.2.2.2.2.1,(wrapK .i64 ((wrapK .i64 ((wrapK .i64 ((wrapK .i64 ((wrapK .i64 (d.2.1+(1:Int)))+(1:Int)))+(1:Int)))+(1:Int)))+(1:Int))),v5.2.2.2.2.2.2)).set d.2.2.1.toNat (v6.1,v6.2.1,v6.2.2.1,v6.2.2.2.1,v6.2.2.2.2.1,v6.2.2.2.2.2.1,(wrapK .i64 ((wrapK .i64 ((wrapK .i64 ((wrapK .i64 ((wrapK .i64 ((wrapK .i64 (d.2.1+(1:Int)))+(1:Int)))+(1:Int)))+(1:Int)))+(1:Int)))+(1:Int))),v6.2.2.2.2.2.2.2)).set d.2.2.1.toNat (v10.1,v10.2.1,v10.2.2.1,v10.2.2.2.1,v10.2.2.2.2.1,v10.2.2.2.2.2.1,v10.2.2.2.2.2.2.1,v9.2,v10.2.2.2.2.2.2.2.2))[d.2.2.1.toNat]?).bind fun v11=>
 (((((((((d.2.2.2.set d.2.2.1.toNat (d.2.1,v0.2)).set d.2.2.1.toNat (v1.1,(wrapK .i64 (d.2.1+(1:Int))),v1.2.2)).set d.2.2.1.toNat (v2.1,v2.2.1,(wrapK .i64 ((wrapK .i64 (d.2.1+(1:Int)))+(1:Int))),v2.2.2.2)).set d.2.2.1.toNat (v3.1,v3.2.1,v3.2.2.1,(wrapK .i64 ((wrapK .i64 ((wrapK .i64 (d.2.1+(1:Int)))+(1:Int)))+(1:Int))),v3.2.2.2.2)).set d.2.2.1.toNat (v4.1,v4.2.1,v4.2.2.1,v4.2.2.2.1,(wrapK .i64 ((wrapK .i64 ((wrapK .i64 ((wrapK .i64 (d.2.1+(1:Int)))+(1:Int)))+(1:Int)))+(1:Int))),v4.2.2.2.2.2)).set d.2.2.1.toNat (v5.1,v5.2.1,v5.2.2.1,v5.2.2.2.1,v5.2.2.2.2.1,(wrapK .i64 ((wrapK .i64 ((wrapK .i64 ((wrapK .i64 ((wrapK .i64 (d.2.1+(1:Int)))+(1:Int)))+(1:Int)))+(1:Int)))+(1:Int))),v5.2.2.2.2.2.2)).set d.2.2.1.toNat (v6.1,v6.2.1,v6.2.2.1,v6.2.2.2.1,v6.2.2.2.2.1,v6.2.2.2.2.2.1,(wrapK .i64 ((wrapK .i64 ((wrapK .i64 ((wrapK .i64 ((wrapK .i64 ((wrapK .i64 (d.2.1+(1:Int)))+(1:Int)))+(1:Int)))+(1:Int)))+(1:Int)))+(1:Int))),v6.2.2.2.2.2.2.2)).set d.2.2.1.toNat (v10.1,v10.2.1,v10.2.2.1,v10.2.2.2.1,v10.2.2.2.2.1,v10.2.2.2.2.2.1,v10.2.2.2.2.2.2.1,v9.2,v10.2.2.2.2.2.2.2.2))[d.2.2.1.toNat]?).bind fun v12=>
 (c_laws_markAclEntryS k (v12.2.2.2.2.2.2.2.2.1,v9.1)).bind fun v13=>
 (((((((((d.2.2.2.set d.2.2.1.toNat (d.2.1,v0.2)).set d.2.2.1.toNat (v1.1,(wrapK .i64 (d.2.1+(1:Int))),v1.2.2)).set d.2.2.1.toNat (v2.1,v2.2.1,(wrapK .i64 ((wrapK .i64 (d.2.1+(1:Int)))+(1:Int))),v2.2.2.2)).set d.2.2.1.toNat (v3.1,v3.2.1,v3.2.2.1,(wrapK .i64 ((wrapK .i64 ((wrapK .i64 (d.2.1+(1:Int)))+(1:Int)))+(1:Int))),v3.2.2.2.2)).set d.2.2.1.toNat (v4.1,v4.2.1,v4.2.2.1,v4.2.2.2.1,(wrapK .i64 ((wrapK .i64 ((wrapK .i64 ((wrapK .i64 (d.2.1+(1:Int)))+(1:Int)))+(1:Int)))+(1:Int))),v4.2.2.2.2.2)).set d.2.2.1.toNat (v5.1,v5.2.1,v5.2.2.1,v5.2.2.2.1,v5.2.2.2.2.1,(wrapK .i64 ((wrapK .i64 ((wrapK .i64 ((wrapK .i64 ((wrapK .i64 (d.2.1+(1:Int)))+(1:Int)))+(1:Int)))+(1:Int)))+(1:Int))),v5.2.2.2.2.2.2)).set d.2.2.1.toNat (v6.1,v6.2.1,v6.2.2.1,v6.2.2.2.1,v6.2.2.2.2.1,v6.2.2.2.2.2.1,(wrapK .i64 ((wrapK .i64 ((wrapK .i64 ((wrapK .i64 ((wrapK .i64 ((wrapK .i64 (d.2.1+(1:Int)))+(1:Int)))+(1:Int)))+(1:Int)))+(1:Int)))+(1:Int))),v6.2.2.2.2.2.2.2)).set d.2.2.1.toNat (v10.1,v10.2.1,v10.2.2.1,v10.2.2.2.1,v10.2.2.2.2.1,v10.2.2.2.2.2.1,v10.2.2.2.2.2.2.1,v9.2,v10.2.2.2.2.2.2.2.2))[d.2.2.1.toNat]?).bind fun v14=>
 (if 0≤d.2.2.1 then(if d.2.2.1<(((((((((((d.2.2.2.set d.2.2.1.toNat (d.2.1,v0.2)).set d.2.2.1.toNat (v1.1,(wrapK .i64 (d.2.1+(1:Int))),v1.2.2)).set d.2.2.1.toNat (v2.1,v2.2.1,(wrapK .i64 ((wrapK .i64 (d.2.1+(1:Int)))+(1:Int))),v2.2.2.2)).set d.2.2.1.toNat (v3.1,v3.2.1,v3.2.2.1,(wrapK .i64 ((wrapK .i64 ((wrapK .i64 (d.2.1+(1:Int)))+(1:Int)))+(1:Int))),v3.2.2.2.2)).set d.2.2.1.toNat (v4.1,v4.2.1,v4.2.2.1,v4.2.2.2.1,(wrapK .i64 ((wrapK .i64 ((wrapK .i64 ((wrapK .i64 (d.2.1+(1:Int)))+(1:Int)))+(1:Int)))+(1:Int))),v4.2.2.2.2.2)).set d.2.2.1.toNat (v5.1,v5.2.1,v5.2.2.1,v5.2.2.2.1,v5.2.2.2.2.1,(wrapK .i64 ((wrapK .i64 ((wrapK .i64 ((wrapK .i64 ((wrapK .i64 (d.2.1+(1:Int)))+(1:Int)))+(1:Int)))+(1:Int)))+(1:Int))),v5.2.2.2.2.2.2)).set d.2.2.1.toNat (v6.1,v6.2.1,v6.2.2.1,v6.2.2.2.1,v6.2.2.2.2.1,v6.2.2.2.2.2.1,(wrapK .i64 ((wrapK .i64 ((wrapK .i64 ((wrapK .i64 ((wrapK .i64 ((wrapK .i64 (d.2.1+(1:Int)))+(1:Int)))+(1:Int)))+(1:Int)))+(1:Int)))+(1:Int))),v6.2.2.2.2.2.2.2)).set d.2.2.1.toNat (v10.1,v10.2.1,v10.2.2.1,v10.2.2.2.1,v10.2.2.2.2.1,v10.2.2.2.2.2.1,v10.2.2.2.2.2.2.1,v9.2,v10.2.2.2.2.2.2.2.2)).set d.2.2.1.toNat (v14.1,v14.2.1,v14.2.2.1,v14.2.2.2.1,v14.2.2.2.2.1,v14.2.2.2.2.2.1,v14.2.2.2.2.2.2.1,v14.2.2.2.2.2.2.2.1,v13.2,v14.2.2.2.2.2.2.2.2.2)).length:Nat):Int)then((((((((((d.2.2.2.set d.2.2.1.toNat (d.2.1,v0.2)).set d.2.2.1.toNat (v1.1,(wrapK .i64 (d.2.1+(1:Int))),v1.2.2)).set d.2.2.1.toNat (v2.1,v2.2.1,(wrapK .i64 ((wrapK .i64 (d.2.1+(1:Int)))+(1:Int))),v2.2.2.2)).set d.2.2.1.toNat (v3.1,v3.2.1,v3.2.2.1,(wrapK .i64 ((wrapK .i64 ((wrapK .i64 (d.2.1+(1:Int)))+(1:Int)))+(1:Int))),v3.2.2.2.2)).set d.2.2.1.toNat (v4.1,v4.2.1,v4.2.2.1,v4.2.2.2.1,(wrapK .i64 ((wrapK .i64 ((wrapK .i64 ((wrapK .i64 (d.2.1+(1:Int)))+(1:Int)))+(1:Int)))+(1:Int))),v4.2.2.2.2.2)).set d.2.2.1.toNat (v5.1,v5.2.1,v5.2.2.1,v5.2.2.2.1,v5.2.2.2.2.1,(wrapK .i64 ((wrapK .i64 ((wrapK .i64 ((wrapK .i64 ((wrapK .i64 (d.2.1+(1:Int)))+(1:Int)))+(1:Int)))+(1:Int)))+(1:Int))),v5.2.2.2.2.2.2)).set d.2.2.1.toNat (v6.1,v6.2.1,v6.2.2.1,v6.2.2.2.1,v6.2.2.2.2.1,v6.2.2.2.2.2.1,(wrapK .i64 ((wrapK .i64 ((wrapK .i64 ((wrapK .i64 ((wrapK .i64 ((wrapK .i64 (d.2.1+(1:Int)))+(1:Int)))+(1:Int)))+(1:Int)))+(1:Int)))+(1:Int))),v6.2.2.2.2.2.2.2)).set d.2.2.1.toNat (v10.1,v10.2.1,v10.2.2.1,v10.2.2.2.1,v10.2.2.2.2.1,v10.2.2.2.2.2.1,v10.2.2.2.2.2.2.1,v9.2,v10.2.2.2.2.2.2.2.2)).set d.2.2.1.toNat (v14.1,v14.2.1,v14.2.2.1,v14.2.2.2.1,v14.2.2.2.2.1,v14.2.2.2.2.2.1,v14.2.2.2.2.2.2.1,v14.2.2.2.2.2.2.2.1,v13.2,v14.2.2.2.2.2.2.2.2.2))[d.2.2.1.toNat]?).bind fun v15=>
 ((((((((((d.2.2.2.set d.2.2.1.toNat (d.2.1,v0.2)).set d.2.2.1.toNat (v1.1,(wrapK .i64 (d.2.1+(1:Int))),v1.2.2)).set d.2.2.1.toNat (v2.1,v2.2.1,(wrapK .i64 ((wrapK .i64 (d.2.1+(1:Int)))+(1:Int))),v2.2.2.2)).set d.2.2.1.toNat (v3.1,v3.2.1,v3.2.2.1,(wrapK .i64 ((wrapK .i64 ((wrapK .i64 (d.2.1+(1:Int)))+(1:Int)))+(1:Int))),v3.2.2.2.2)).set d.2.2.1.toNat (v4.1,v4.2.1,v4.2.2.1,v4.2.2.2.1,(wrapK .i64 ((wrapK .i64 ((wrapK .i64 ((wrapK .i64 (d.2.1+(1:Int)))+(1:Int)))+(1:Int)))+(1:Int))),v4.2.2.2.2.2)).set d.2.2.1.toNat (v5.1,v5.2.1,v5.2.2.1,v5.2.2.2.1,v5.2.2.2.2.1,(wrapK .i64 ((wrapK .i64 ((wrapK .i64 ((wrapK .i64 ((wrapK .i64 (d.2.1+(1:Int)))+(1:Int)))+(1:Int)))+(1:Int)))+(1:Int))),v5.2.2.2.2.2.2)).set d.2.2.1.toNat (v6.1,v6.2.1,v6.2.2.1,v6.2.2.2.1,v6.2.2.2.2.1,v6.2.2.2.2.2.1,(wrapK .i64 ((wrapK .i64 ((wrapK .i64 ((wrapK .i64 ((wrapK .i64 ((wrapK .i64 (d.2.1+(1:Int)))+(1:Int)))+(1:Int)))+(1:Int)))+(1:Int)))+(1:Int))),v6.2.2.2.2.2.2.2)).set d.2.2.1.toNat (v10.1,v10.2.1,v10.2.2.1,v10.2.2.2.1,v10.2.2.2.2.1,v10.2.2.2.2.2.1,v10.2.2.2.2.2.2.1,v9.2,v10.2.2.2.2.2.2.2.2)).set d.2.2.1.toNat (v14.1,v14.2.1,v14.2.2.1,v14.2.2.2.1,v14.2.2.2.2.1,v14.2.2.2.2.2.1,v14.2.2.2.2.2.2.1,v14.2.2.2.2.2.2.2.1,v13.2,v14.2.2.2.2.2.2.2.2.2))[d.2.2.1.toNat]?).bind fun v16=>
 (c_laws_markAclEntryS k (v16.2.2.2.2.2.2.2.2.2,v13.1)).bind fun v17=>
 ((((((((((d.2.2.2.set d.2.2.1.toNat (d.2.1,v0.2)).set d.2.2.1.toNat (v1.1,(wrapK .i64 (d.2.1+(1:Int))),v1.2.2)).set d.2.2.1.toNat (v2.1,v2.2.1,(wrapK .i64 ((wrapK .i64 (d.2.1+(1:Int)))+(1:Int))),v2.2.2.2)).set d.2.2.1.toNat (v3.1,v3.2.1,v3.2.2.1,(wrapK .i64 ((wrapK .i64 ((wrapK .i64 (d.2.1+(1:Int)))+(1:Int)))+(1:Int))),v3.2.2.2.2)).set d.2.2.1.toNat (v4.1,v4.2.1,v4.2.2.1,v4.2.2.2.1,(wrapK .i64 ((wrapK .i64 ((wrapK .i64 ((wrapK .i64 (d.2.1+(1:Int)))+(1:Int)))+(1:Int)))+(1:Int))),v4.2.2.2.2.2)).set d.2.2.1.toNat (v5.1,v5.2.1,v5.2.2.1,v5.2.2.2.1,v5.2.2.2.2.1,(wrapK .i64 ((wrapK .i64 ((wrapK .i64 ((wrapK .i64 ((wrapK .i64 (d.2.1+(1:Int)))+(1:Int)))+(1:Int)))+(1:Int)))+(1:Int))),v5.2.2.2.2.2.2)).set d.2.2.1.toNat (v6.1,v6.2.1,v6.2.2.1,v6.2.2.2.1,v6.2.2.2.2.1,v6.2.2.2.2.2.1,(wrapK .i64 ((wrapK .i64 ((wrapK .i64 ((wrapK .i64 ((wrapK .i64 ((wrapK .i64 (d.2.1+(1:Int)))+(1:Int)))+(1:Int)))+(1:Int)))+(1:Int)))+(1:Int))),v6.2.2.2.2.2.2.2)).set d.2.2.1.toNat (v10.1,v10.2.1,v10.2.2.1,v10.2.2.2.1,v10.2.2.2.2.1,v10.2.2.2.2.2.1,v10.2.2.2.2.2.2.1,v9.2,v10.2.2.2.2.2.2.2.2)).set d.2.2.1.toNat (v14.1,v14.2.1,v14.2.2.1,v14.2.2.2.1,v14.2.2.2.2.1,v14.2.2.2.2.2.1,v14.2.2.2.2.2.2.1,v14.2.2.2.2.2.2.2.1,v13.2,v14.2.2.2.2.2.2.2.2.2))[d.2.2.1.toNat]?).bind fun v18=>
 self ((),v17.1,(wrapK .i64 (d.2.2.1+(1:Int))),((((((((((d.2.2.2.set d.2.2.1.toNat (d.2.1,v0.2)).set d.2.2.1.toNat (v1.1,(wrapK .i64 (d.2.1+(1:Int))),v1.2.2)).set d.2.2.1.toNat (v2.1,v2.2.1,(wrapK .i64 ((wrapK .i64 (d.2.1+(1:Int)))+(1:Int))),v2.2.2.2)).set d.2.2.1.toNat (v3.1,v3.2.1,v3.2.2.1,(wrapK .i64 ((wrapK .i64 ((wrapK .i64 (d.2.1+(1:Int)))+(1:Int)))+(1:Int))),v3.2.2.2.2)).set d.2.2.1.toNat (v4.1,v4.2.1,v4.2.2.1,v4.2.2.2.1,(wrapK .i64 ((wrapK .i64 ((wrapK .i64 ((wrapK .i64 (d.2.1+(1:Int)))+(1:Int)))+(1:Int)))+(1:Int))),v4.2.2.2.2.2)).set d.2.2.1.toNat (v5.1,v5.2.1,v5.2.2.1,v5.2.2.2.1,v5.2.2.2.2.1,(wrapK .i64 ((wrapK .i64 ((wrapK .i64 ((wrapK .i64 ((wrapK .i64 (d.2.1+(1:Int)))+(1:Int)))+(1:Int)))+(1:Int)))+(1:Int))),v5.2.2.2.2.2.2)).set d.2.2.1.toNat (v6.1,v6.2.1,v6.2.2.1,v6.2.2.2.1,v6.2.2.2.2.1,v6.2.2.2.2.2.1,(wrapK .i64 ((wrapK .i64 ((wrapK .i64 ((wrapK .i64 ((wrapK .i64 ((wrapK .i64 (d.2.1+(1:Int)))+(1:Int)))+(1:Int)))+(1:Int)))+(1:Int)))+(1:Int))),v6.2.2.2.2.2.2.2)).set d.2.2.1.toNat (v10.1,v10.2.1,v10.2.2.1,v10.2.2.2.1,v10.2.2.2.2.1,v10.2.2.2.2.2.1,v10.2.2.2.2.2.2.1,v9.2,v10.2.2.2.2.2.2.2.2)).set d.2.2.1.toNat (v14.1,v14.2.1,v14.2.2.1,v14.2.2.2.1,v14.2.2.2.2.1,v14.2.2.2.2.2.1,v14.2.2.2.2.2.2.1,v14.2.2.2.2.2.2.2.1,v13.2,v14.2.2.2.2.2.2.2.2.2)).set d.2.2.1.toNat (v18.1,v18.2.1,v18.2.2.1,v18.2.2.2.1,v18.2.2.2.2.1,v18.2.2.2.2.2.1,v18.2.2.2.2.2.2.1,v18.2.2.2.2.2.2.2.1,v18.2.2.2.2.2.2.2.2.1,v17.2)))else none)else none)else none)else none)else none)else none)else none)else none)else none)else none)else none)else none)else none)else none)else none)else none)else none)else none)else none)else none)else some (d.2.1,d.2.2.2))
def laws_markInodeS(k:Nat)(x0:(List DInode))(x1:Int):Option (Int×(List DInode)):=
 iter k (laws_markInodeS_l1 k) ((),x1,(0:Int),x0)
theorem laws_markInodeS_run(k:Nat)(x0:(List DInode))(x1:Int):c_laws_markInodeS (k+1) (x0,x1)=laws_markInodeS k x0 x1:=by kernel_rfl
def laws_markStringS_l1(k:Nat)(self:_→Option (Int×(List ByteArray)))(d:(Unit×(Int×(Int×(List ByteArray))))):=
 (bif (decide (d.2.2.1<(d.2.2.2.length:Int)))then(c_laws_markText k d.2.1).bind fun v0=>
 (if 0≤d.2.2.1 then(if d.2.2.1<(d.2.2.2.length:Int)then(d.2.2.2[d.2.2.1.toNat]?).bind fun v1=>
 self ((),(wrapK .i64 (d.2.1+(1:Int))),(wrapK .i64 (d.2.2.1+(1:Int))),(d.2.2.2.set d.2.2.1.toNat v0))else none)else none)else some (d.2.1,d.2.2.2))
def laws_markStringS(k:Nat)(x0:(List ByteArray))(x1:Int):Option (Int×(List ByteArray)):=
 iter k (laws_markStringS_l1 k) ((),x1,(0:Int),x0)
theorem laws_markStringS_run(k:Nat)(x0:(List ByteArray))(x1:Int):c_laws_markStringS (k+1) (x0,x1)=laws_markStringS k x0 x1:=by kernel_rfl
def laws_markWriteS_l1(k:Nat)(self:_→Option (Int×(List DWrite)))(d:(Unit×(Int×(Int×(List DWrite))))):=
 (bif (decide (d.2.2.1<(d.2.2.2.length:Int)))then(if 0≤d.2.2.1 then(if d.2.2.1<(d.2.2.2.length:Int)then(d.2.2.2[d.2.2.1.toNat]?).bind fun v0=>
 (c_laws_markText k (wrapK .i64 (d.2.1+(1:Int)))).bind fun v1=>
 (if 0≤d.2.2.1 then(if d.2.2.1<(((d.2.2.2.set d.2.2.1.toNat (d.2.1,v0.2)).length:Nat):Int)then((d.2.2.2.set d.2.2.1.toNat (d.2.1,v0.2))[d.2.2.1.toNat]?).bind fun v2=>
 self ((),(wrapK .i64 ((wrapK .i64 (d.2.1+(1:Int)))+(1:Int))),(wrapK .i64 (d.2.2.1+(1:Int))),((d.2.2.2.set d.2.2.1.toNat (d.2.1,v0.2)).set d.2.2.1.toNat (v2.1,v1)))else none)else none)else none)else none)else some (d.2.1,d.2.2.2))
def laws_markWriteS(k:Nat)(x0:(List DWrite))(x1:Int):Option (Int×(List DWrite)):=
 iter k (laws_markWriteS_l1 k) ((),x1,(0:Int),x0)
theorem laws_markWriteS_run(k:Nat)(x0:(List DWrite))(x1:Int):c_laws_markWriteS (k+1) (x0,x1)=laws_markWriteS k x0 x1:=by kernel_rfl
def laws_markOpenS_l1(k:Nat)(self:_→Option (Int×(List DOpen)))(d:(Unit×(Int×(Int×(List DOpen))))):=
 (bif (decide (d.2.2.1<(d.2.2.2.length:Int)))then(if 0≤d.2.2.1 then(if d.2.2.1<(d.2.2.2.length:Int)then(d.2.2.2[d.2.2.1.toNat]?).bind fun v0=>
 (if 0≤d.2.2.1 then(if d.2.2.1<(((d.2.2.2.set d.2.2.1.toNat (d.2.1,v0.2)).length:Nat):Int)then((d.2.2.2.set d.2.2.1.toNat (d.2.1,v0.2))[d.2.2.1.toNat]?).bind fun v1=>
 (if 0≤d.2.2.1 then(if d.2.2.1<((((d.2.2.2.set d.2.2.1.toNat (d.2.1,v0.2)).set d.2.2.1.toNat (v1.1,(wrapK .i64 (d.2.1+(1:Int))),v1.2.2)).length:Nat):Int)then(((d.2.2.2.set d.2.2.1.toNat (d.2.1,v0.2)).set d.2.2.1.toNat (v1.1,(wrapK .i64 (d.2.1+(1:Int))),v1.2.2))[d.2.2.1.toNat]?).bind fun v2=>
 self ((),(wrapK .i64 ((wrapK .i64 ((wrapK .i64 (d.2.1+(1:Int)))+(1:Int)))+(1:Int))),(wrapK .i64 (d.2.2.1+(1:Int))),(((d.2.2.2.set d.2.2.1.toNat (d.2.1,v0.2)).set d.2.2.1.toNat (v1.1,(wrapK .i64 (d.2.1+(1:Int))),v1.2.2)).set d.2.2.1.toNat (v2.1,v2.2.1,(wrapK .i64 ((wrapK .i64 (d.2.1+(1:Int)))+(1:Int))))))else none)else none)else none)else none)else none)else none)else some (d.2.1,d.2.2.2))
def laws_markOpenS(k:Nat)(x0:(List DOpen))(x1:Int):Option (Int×(List DOpen)):=
 iter k (laws_markOpenS_l1 k) ((),x1,(0:Int),x0)
theorem laws_markOpenS_run(k:Nat)(x0:(List DOpen))(x1:Int):c_laws_markOpenS (k+1) (x0,x1)=laws_markOpenS k x0 x1:=by kernel_rfl
def laws_markProcS_l1(k:Nat)(self:_→Option (Int×(List DProc)))(d:(Unit×(Int×(Int×(List DProc))))):=
 (bif (decide (d.2.2.1<(d.2.2.2.length:Int)))then(if 0≤d.2.2.1 then(if d.2.2.1<(d.2.2.2.length:Int)then(d.2.2.2[d.2.2.1.toNat]?).bind fun v0=>
 (if 0≤d.2.2.1 then(if d.2.2.1<(((d.2.2.2.set d.2.2.1.toNat ((d.2.1,v0.1.2),v0.2)).length:Nat):Int)then((d.2.2.2.set d.2.2.1.toNat ((d.2.1,v0.1.2),v0.2))[d.2.2.1.toNat]?).bind fun v1=>
 (if 0≤d.2.2.1 then(if d.2.2.1<((((d.2.2.2.set d.2.2.1.toNat ((d.2.1,v0.1.2),v0.2)).set d.2.2.1.toNat ((v1.1.1,(wrapK .i64 (d.2.1+(1:Int))),v1.1.2.2),v1.2)).length:Nat):Int)then(((d.2.2.2.set d.2.2.1.toNat ((d.2.1,v0.1.2),v0.2)).set d.2.2.1.toNat ((v1.1.1,(wrapK .i64 (d.2.1+(1:Int))),v1.1.2.2),v1.2))[d.2.2.1.toNat]?).bind fun v2=>
 (((d.2.2.2.set d.2.2.1.toNat ((d.2.1,v0.1.2),v0.2)).set d.2.2.1.toNat ((v1.1.1,(wrapK .i64 (d.2.1+(1:Int))),v1.1.2.2),v1.2))[d.2.2.1.toNat]?).bind fun v3=>
 (c_laws_markIntS k (v3.1.2.2,(wrapK .i64 ((wrapK .i64 (d.2.1+(1:Int)))+(1:Int))))).bind fun v4=>
 (((d.2.2.2.set d.2.2.1.toNat ((d.2.1,v0.1.2),v0.2)).set d.2.2.1.toNat ((v1.1.1,(wrapK .i64 (d.2.1+(1:Int))),v1.1.2.2),v1.2))[d.2.2.1.toNat]?).bind fun v5=>
 (if 0≤d.2.2.1 then(if d.2.2.1<(((((d.2.2.2.set d.2.2.1.toNat ((d.2.1,v0.1.2),v0.2)).set d.2.2.1.toNat ((v1.1.1,(wrapK .i64 (d.2.1+(1:Int))),v1.1.2.2),v1.2)).set d.2.2.1.toNat ((v5.1.1,v5.1.2.1,v4.2),v5.2)).length:Nat):Int)then((((d.2.2.2.set d.2.2.1.toNat ((d.2.1,v0.1.2),v0.2)).set d.2.2.1.toNat ((v1.1.1,(wrapK .i64 (d.2.1+(1:Int))),v1.1.2.2),v1.2)).set d.2.2.1.toNat ((v5.1.1,v5.1.2.1,v4.2),v5.2))[d.2.2.1.toNat]?).bind fun v6=>
 ((((d.2.2.2.set d.2.2.1.toNat ((d.2.1,v0.1.2),v0.2)).set d.2.2.1.toNat ((v1.1.1,(wrapK .i64 (d.2.1+(1:Int))),v1.1.2.2),v1.2)).set d.2.2.1.toNat ((v5.1.1,v5.1.2.1,v4.2),v5.2))[d.2.2.1.toNat]?).bind fun v7=>
 (c_laws_markOpenS k (v7.2,v4.1)).bind fun v8=>
 ((((d.2.2.2.set d.2.2.1.toNat ((d.2.1,v0.1.2),v0.2)).set d.2.2.1.toNat ((v1.1.1,(wrapK .i64 (d.2.1+(1:Int))),v1.1.2.2),v1.2)).set d.2.2.1.toNat ((v5.1.1,v5.1.2.1,v4.2),v5.2))[d.2.2.1.toNat]?).bind fun v9=>
 self ((),v8.1,(wrapK .i64 (d.2.2.1+(1:Int))),((((d.2.2.2.set d.2.2.1.toNat ((d.2.1,v0.1.2),v0.2)).set d.2.2.1.toNat ((v1.1.1,(wrapK .i64 (d.2.1+(1:Int))),v1.1.2.2),v1.2)).set d.2.2.1.toNat ((v5.1.1,v5.1.2.1,v4.2),v5.2)).set d.2.2.1.toNat (v9.1,v8.2)))else none)else none)else none)else none)else none)else none)else none)else none)else some (d.2.1,d.2.2.2))
def laws_markProcS(k:Nat)(x0:(List DProc))(x1:Int):Option (Int×(List DProc)):=
 iter k (laws_markProcS_l1 k) ((),x1,(0:Int),x0)
theorem laws_markProcS_run(k:Nat)(x0:(List DProc))(x1:Int):c_laws_markProcS (k+1) (x0,x1)=laws_markProcS k x0 x1:=by kernel_rfl
def laws_FnExactStartMachine(k:Nat)(x0:DFS)(x1:(List DCred)):Option Bool:=
 (c_laws_szFS k (x0,(1048576:Int))).bind fun y1=>
 (bif (decide (y1<(0:Int)))then some true else(c_laws_szCredS k (x1,y1)).bind fun y2=>
 (bif (decide (y2<(0:Int)))then some true else(c_laws_toFS k x0).bind fun y3=>
 (c_laws_toCredS k x1).bind fun y4=>
 (c_spec_StartMachine k (y3,y4)).bind fun y5=>
 (c_laws_toFS k x0).bind fun y6=>
 (c_laws_toCredS k x1).bind fun y7=>
 (c_impl_StartMachine k (y6,y7)).bind fun y8=>
 (c_laws_eqMachine k (y8.1,y5.1)).bind fun y9=>
 (bif (!y9)then some false else(bif (y8.2 != y5.2)then some false else(c_laws_toFS k x0).bind fun y10=>
 (c_laws_eqFS k (y6,y10)).bind fun y11=>
 (bif (!y11)then some false else(c_laws_toCredS k x1).bind fun y12=>
 (c_laws_eqCredS k (y7,y12)).bind fun y13=>
 (bif (!y13)then some false else(c_laws_markQuotaS k (y6.2.1,(1:Int))).bind fun y14=>
 (c_laws_markInodeS k (y6.2.2.1,y14.1)).bind fun y15=>
 (c_laws_markStringS k (y6.2.2.2,y15.1)).bind fun y16=>
 (c_laws_markCredS k (y7,y16.1)).bind fun y17=>
 (bif (decide (y17.1<(0:Int)))then some false else(c_laws_eqMachine k (y8.1,y5.1)).bind fun y18=>
 (bif (!y18)then some false else(bif (y8.2 != y5.2)then some false else(c_laws_markStringS k (y8.1.1.1,(1:Int))).bind fun y19=>
 (c_laws_markWriteS k (y8.1.1.2,y19.1)).bind fun y20=>
 (c_laws_markQuotaS k (y8.1.2.2.1.2.1,y20.1)).bind fun y21=>
 (c_laws_markInodeS k (y8.1.2.2.1.2.2.1,y21.1)).bind fun y22=>
 (c_laws_markStringS k (y8.1.2.2.1.2.2.2,y22.1)).bind fun y23=>
 (c_laws_markProcS k (y8.1.2.2.2,y23.1)).bind fun y24=>
 (c_laws_heldMachine k (((y19.2,y20.2),y8.1.2.1,(y8.1.2.2.1.1,y21.2,y22.2,y23.2),y24.2),(1:Int))).bind fun y25=>
 (bif (decide (y25<(0:Int)))then some false else(bif (y25 != y24.1)then some false else(c_laws_toFS k x0).bind fun y26=>
 (c_laws_toCredS k x1).bind fun y27=>
 (c_impl_StartMachine k (y26,y27)).bind fun y28=>
 (c_laws_eqMachine k (y28.1,y5.1)).bind fun y29=>
 (bif (!y29)then some false else(bif (y28.2 != y5.2)then some false else(c_laws_heldMachine k (((y19.2,y20.2),y8.1.2.1,(y8.1.2.2.1.1,y21.2,y22.2,y23.2),y24.2),(1:Int))).bind fun y30=>
 (bif (decide (y30<(0:Int)))then some false else(bif (y30 != y24.1)then some false else some true)))))))))))))))
theorem laws_FnExactStartMachine_run(k:Nat)(x0:DFS)(x1:(List DCred)):c_laws_FnExactStartMachine (k+1) (x0,x1)=laws_FnExactStartMachine k x0 x1:=by kernel_rfl
end
end Go.Proofs.YtmmgfgfkkpeedaaGreat
