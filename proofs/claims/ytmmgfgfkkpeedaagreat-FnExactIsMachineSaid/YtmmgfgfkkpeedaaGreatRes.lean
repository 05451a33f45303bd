/- The tables, the residual functions and lemmas of this seat: parts of the proof of the law; conditions: those that each names. -/
import Derived.Test.YtmmgfgfkkpeedaaGreatTab
set_option maxRecDepth 100000
set_option maxHeartbeats 0
set_option linter.unusedVariables false
namespace Go.Proofs.YtmmgfgfkkpeedaaGreat
open Go.Eng
noncomputable section
def laws_eqStringS_l1(k:Nat)(self:_→Option Bool)(d:((List ByteArray)×((List ByteArray)×Int))):=
 (bif (decide (d.2.2<(d.1.length:Int)))then(if 0≤d.2.2 then(d.1[d.2.2.toNat]?).bind fun v0=>
 (if 0≤d.2.2 then(d.2.1[d.2.2.toNat]?).bind fun v1=>
 (bif (!(eqS v0 v1))then some false else self (d.1,d.2.1,(wrapK .i64 (d.2.2+(1:Int)))))else none)else none)else some true)
def laws_eqStringS(k:Nat)(x0:(List ByteArray))(x1:(List ByteArray)):Option Bool:=
 (bif ((x0.length:Int) != (x1.length:Int))then some false else iter k (laws_eqStringS_l1 k) (x0,x1,(0:Int)))
theorem laws_eqStringS_run(k:Nat)(x0:(List ByteArray))(x1:(List ByteArray)):c_laws_eqStringS (k+1) (x0,x1)=laws_eqStringS k x0 x1:=by kernel_rfl
def laws_eqWrite(k:Nat)(x0:DWrite)(x1:DWrite):Option Bool:=
 (bif (x0.1 != x1.1)then some false else(bif (!(eqS x0.2 x1.2))then some false else some true))
theorem laws_eqWrite_run(k:Nat)(x0:DWrite)(x1:DWrite):c_laws_eqWrite (k+1) (x0,x1)=laws_eqWrite k x0 x1:=by kernel_rfl
def laws_eqWriteS_l1(k:Nat)(self:_→Option Bool)(d:((List DWrite)×((List DWrite)×Int))):=
 (bif (decide (d.2.2<(d.1.length:Int)))then(if 0≤d.2.2 then(d.1[d.2.2.toNat]?).bind fun v0=>
 (if 0≤d.2.2 then(d.2.1[d.2.2.toNat]?).bind fun v1=>
 (c_laws_eqWrite k (v0,v1)).bind fun v2=>
 (bif (!v2)then some false else self (d.1,d.2.1,(wrapK .i64 (d.2.2+(1:Int)))))else none)else none)else some true)
def laws_eqWriteS(k:Nat)(x0:(List DWrite))(x1:(List DWrite)):Option Bool:=
 (bif ((x0.length:Int) != (x1.length:Int))then some false else iter k (laws_eqWriteS_l1 k) (x0,x1,(0:Int)))
theorem laws_eqWriteS_run(k:Nat)(x0:(List DWrite))(x1:(List DWrite)):c_laws_eqWriteS (k+1) (x0,x1)=laws_eqWriteS k x0 x1:=by kernel_rfl
def laws_eqDisk(k:Nat)(x0:DDisk)(x1:DDisk):Option Bool:=
 (c_laws_eqStringS k (x0.1,x1.1)).bind fun y1=>
 (bif (!y1)then some false else(c_laws_eqWriteS k (x0.2,x1.2)).bind fun y2=>
 (bif (!y2)then some false else some true))
theorem laws_eqDisk_run(k:Nat)(x0:DDisk)(x1:DDisk):c_laws_eqDisk (k+1) (x0,x1)=laws_eqDisk k x0 x1:=by kernel_rfl
def laws_eqQuota(k:Nat)(x0:DQuota)(x1:DQuota):Option Bool:=
 (bif (x0.1 != x1.1)then some false else(bif (x0.2 != x1.2)then some false else some true))
theorem laws_eqQuota_run(k:Nat)(x0:DQuota)(x1:DQuota):c_laws_eqQuota (k+1) (x0,x1)=laws_eqQuota k x0 x1:=by kernel_rfl
def laws_eqQuotaS_l1(k:Nat)(self:_→Option Bool)(d:((List DQuota)×((List DQuota)×Int))):=
 (bif (decide (d.2.2<(d.1.length:Int)))then(if 0≤d.2.2 then(d.1[d.2.2.toNat]?).bind fun v0=>
 (if 0≤d.2.2 then(d.2.1[d.2.2.toNat]?).bind fun v1=>
 (c_laws_eqQuota k (v0,v1)).bind fun v2=>
 (bif (!v2)then some false else self (d.1,d.2.1,(wrapK .i64 (d.2.2+(1:Int)))))else none)else none)else some true)
def laws_eqQuotaS(k:Nat)(x0:(List DQuota))(x1:(List DQuota)):Option Bool:=
 (bif ((x0.length:Int) != (x1.length:Int))then some false else iter k (laws_eqQuotaS_l1 k) (x0,x1,(0:Int)))
theorem laws_eqQuotaS_run(k:Nat)(x0:(List DQuota))(x1:(List DQuota)):c_laws_eqQuotaS (k+1) (x0,x1)=laws_eqQuotaS k x0 x1:=by kernel_rfl
def laws_eqIntS_l1(k:Nat)(self:_→Option Bool)(d:((List Int)×((List Int)×Int))):=
 (bif (decide (d.2.2<(d.1.length:Int)))then(if 0≤d.2.2 then(d.1[d.2.2.toNat]?).bind fun v0=>
 (if 0≤d.2.2 then(d.2.1[d.2.2.toNat]?).bind fun v1=>
 (bif (v0 != v1)then some false else self (d.1,d.2.1,(wrapK .i64 (d.2.2+(1:Int)))))else none)else none)else some true)
def laws_eqIntS(k:Nat)(x0:(List Int))(x1:(List Int)):Option Bool:=
 (bif ((x0.length:Int) != (x1.length:Int))then some false else iter k (laws_eqIntS_l1 k) (x0,x1,(0:Int)))
theorem laws_eqIntS_run(k:Nat)(x0:(List Int))(x1:(List Int)):c_laws_eqIntS (k+1) (x0,x1)=laws_eqIntS k x0 x1:=by kernel_rfl
def laws_eqAclEntry(k:Nat)(x0:DOpen)(x1:DOpen):Option Bool:=
 (bif (x0.1 != x1.1)then some false else(bif (x0.2.1 != x1.2.1)then some false else(bif (x0.2.2 != x1.2.2)then some false else some true)))
theorem laws_eqAclEntry_run(k:Nat)(x0:DOpen)(x1:DOpen):c_laws_eqAclEntry (k+1) (x0,x1)=laws_eqAclEntry k x0 x1:=by kernel_rfl
def laws_eqAclEntryS_l1(k:Nat)(self:_→Option Bool)(d:((List DOpen)×((List DOpen)×Int))):=
 (bif (decide (d.2.2<(d.1.length:Int)))then(if 0≤d.2.2 then(d.1[d.2.2.toNat]?).bind fun v0=>
 (if 0≤d.2.2 then(d.2.1[d.2.2.toNat]?).bind fun v1=>
 (c_laws_eqAclEntry k (v0,v1)).bind fun v2=>
 (bif (!v2)then some false else self (d.1,d.2.1,(wrapK .i64 (d.2.2+(1:Int)))))else none)else none)else some true)
def laws_eqAclEntryS(k:Nat)(x0:(List DOpen))(x1:(List DOpen)):Option Bool:=
 (bif ((x0.length:Int) != (x1.length:Int))then some false else iter k (laws_eqAclEntryS_l1 k) (x0,x1,(0:Int)))
theorem laws_eqAclEntryS_run(k:Nat)(x0:(List DOpen))(x1:(List DOpen)):c_laws_eqAclEntryS (k+1) (x0,x1)=laws_eqAclEntryS k x0 x1:=by kernel_rfl
def laws_eqInode(k:Nat)(x0:DInode)(x1:DInode):Option Bool:=
 (bif (x0.1 != x1.1)then some false else(bif (x0.2.1 != x1.2.1)then some false else(bif (x0.2.2.1 != x1.2.2.1)then some false else(bif (x0.2.2.2.1 != x1.2.2.2.1)then some false else(bif (x0.2.2.2.2.1 != x1.2.2.2.2.1)then some false else(bif (x0.2.2.2.2.2.1 != x1.2.2.2.2.2.1)then some false else(bif (x0.2.2.2.2.2.2.1 != x1.2.2.2.2.2.2.1)then some false else(c_laws_eqIntS k (x0.2.2.2.2.2.2.2.1,x1.2.2.2.2.2.2.2.1)).bind fun y1=>
 (bif (!y1)then some false else(c_laws_eqAclEntryS k (x0.2.2.2.2.2.2.2.2.1,x1.2.2.2.2.2.2.2.2.1)).bind fun y2=>
 (bif (!y2)then some false else(c_laws_eqAclEntryS k (x0.2.2.2.2.2.2.2.2.2,x1.2.2.2.2.2.2.2.2.2)).bind fun y3=>
 (bif (!y3)then some false else some true))))))))))
theorem laws_eqInode_run(k:Nat)(x0:DInode)(x1:DInode):c_laws_eqInode (k+1) (x0,x1)=laws_eqInode k x0 x1:=by kernel_rfl
def laws_eqInodeS_l1(k:Nat)(self:_→Option Bool)(d:((List DInode)×((List DInode)×Int))):=
 (bif (decide (d.2.2<(d.1.length:Int)))then(if 0≤d.2.2 then(d.1[d.2.2.toNat]?).bind fun v0=>
 (if 0≤d.2.2 then(d.2.1[d.2.2.toNat]?).bind fun v1=>
 (c_laws_eqInode k (v0,v1)).bind fun v2=>
 (bif (!v2)then some false else self (d.1,d.2.1,(wrapK .i64 (d.2.2+(1:Int)))))else none)else none)else some true)
def laws_eqInodeS(k:Nat)(x0:(List DInode))(x1:(List DInode)):Option Bool:=
 (bif ((x0.length:Int) != (x1.length:Int))then some false else iter k (laws_eqInodeS_l1 k) (x0,x1,(0:Int)))
theorem laws_eqInodeS_run(k:Nat)(x0:(List DInode))(x1:(List DInode)):c_laws_eqInodeS (k+1) (x0,x1)=laws_eqInodeS k x0 x1:=by kernel_rfl
def laws_eqFS(k:Nat)(x0:DFS)(x1:DFS):Option Bool:=
 (bif (x0.1 != x1.1)then some false else(c_laws_eqQuotaS k (x0.2.1,x1.2.1)).bind fun y1=>
 (bif (!y1)then some false else(c_laws_eqInodeS k (x0.2.2.1,x1.2.2.1)).bind fun y2=>
 (bif (!y2)then some false else(c_laws_eqStringS k (x0.2.2.2,x1.2.2.2)).bind fun y3=>
 (bif (!y3)then some false else some true))))
theorem laws_eqFS_run(k:Nat)(x0:DFS)(x1:DFS):c_laws_eqFS (k+1) (x0,x1)=laws_eqFS k x0 x1:=by kernel_rfl
def laws_eqCred(k:Nat)(x0:DCred)(x1:DCred):Option Bool:=
 (bif (x0.1 != x1.1)then some false else(bif (x0.2.1 != x1.2.1)then some false else(c_laws_eqIntS k (x0.2.2,x1.2.2)).bind fun y1=>
 (bif (!y1)then some false else some true)))
theorem laws_eqCred_run(k:Nat)(x0:DCred)(x1:DCred):c_laws_eqCred (k+1) (x0,x1)=laws_eqCred k x0 x1:=by kernel_rfl
def laws_eqOpen(k:Nat)(x0:DOpen)(x1:DOpen):Option Bool:=
 (bif (x0.1 != x1.1)then some false else(bif (x0.2.1 != x1.2.1)then some false else(bif (x0.2.2 != x1.2.2)then some false else some true)))
theorem laws_eqOpen_run(k:Nat)(x0:DOpen)(x1:DOpen):c_laws_eqOpen (k+1) (x0,x1)=laws_eqOpen k x0 x1:=by kernel_rfl
def laws_eqOpenS_l1(k:Nat)(self:_→Option Bool)(d:((List DOpen)×((List DOpen)×Int))):=
 (bif (decide (d.2.2<(d.1.length:Int)))then(if 0≤d.2.2 then(d.1[d.2.2.toNat]?).bind fun v0=>
 (if 0≤d.2.2 then(d.2.1[d.2.2.toNat]?).bind fun v1=>
 (c_laws_eqOpen k (v0,v1)).bind fun v2=>
 (bif (!v2)then some false else self (d.1,d.2.1,(wrapK .i64 (d.2.2+(1:Int)))))else none)else none)else some true)
def laws_eqOpenS(k:Nat)(x0:(List DOpen))(x1:(List DOpen)):Option Bool:=
 (bif ((x0.length:Int) != (x1.length:Int))then some false else iter k (laws_eqOpenS_l1 k) (x0,x1,(0:Int)))
theorem laws_eqOpenS_run(k:Nat)(x0:(List DOpen))(x1:(List DOpen)):c_laws_eqOpenS (k+1) (x0,x1)=laws_eqOpenS k x0 x1:=by kernel_rfl
def laws_eqProc(k:Nat)(x0:DProc)(x1:DProc):Option Bool:=
 (c_laws_eqCred k (x0.1,x1.1)).bind fun y1=>
 (bif (!y1)then some false else(c_laws_eqOpenS k (x0.2,x1.2)).bind fun y2=>
 (bif (!y2)then some false else some true))
theorem laws_eqProc_run(k:Nat)(x0:DProc)(x1:DProc):c_laws_eqProc (k+1) (x0,x1)=laws_eqProc k x0 x1:=by kernel_rfl
def laws_eqProcS_l1(k:Nat)(self:_→Option Bool)(d:((List DProc)×((List DProc)×Int))):=
 (bif (decide (d.2.2<(d.1.length:Int)))then(if 0≤d.2.2 then(d.1[d.2.2.toNat]?).bind fun v0=>
 (if 0≤d.2.2 then(d.2.1[d.2.2.toNat]?).bind fun v1=>
 (c_laws_eqProc k (v0,v1)).bind fun v2=>
 (bif (!v2)then some false else self (d.1,d.2.1,(wrapK .i64 (d.2.2+(1:Int)))))else none)else none)else some true)
def laws_eqProcS(k:Nat)(x0:(List DProc))(x1:(List DProc)):Option Bool:=
 (bif ((x0.length:Int) != (x1.length:Int))then some false else iter k (laws_eqProcS_l1 k) (x0,x1,(0:Int)))
theorem laws_eqProcS_run(k:Nat)(x0:(List DProc))(x1:(List DProc)):c_laws_eqProcS (k+1) (x0,x1)=laws_eqProcS k x0 x1:=by kernel_rfl
def laws_eqSystem(k:Nat)(x0:DSystem)(x1:DSystem):Option Bool:=
 (c_laws_eqFS k (x0.1,x1.1)).bind fun y1=>
 (bif (!y1)then some false else(c_laws_eqProcS k (x0.2,x1.2)).bind fun y2=>
 (bif (!y2)then some false else some true))
theorem laws_eqSystem_run(k:Nat)(x0:DSystem)(x1:DSystem):c_laws_eqSystem (k+1) (x0,x1)=laws_eqSystem k x0 x1:=by kernel_rfl
def laws_eqMachine(k:Nat)(x0:DMachine)(x1:DMachine):Option Bool:=
 (c_laws_eqDisk k (x0.1,x1.1)).bind fun y1=>
 (bif (!y1)then some false else(bif (x0.2.1 != x1.2.1)then some false else(c_laws_eqSystem k (x0.2.2,x1.2.2)).bind fun y2=>
 (bif (!y2)then some false else some true)))
theorem laws_eqMachine_run(k:Nat)(x0:DMachine)(x1:DMachine):c_laws_eqMachine (k+1) (x0,x1)=laws_eqMachine k x0 x1:=by kernel_rfl
def laws_szStringS_l1(k:Nat)(self:_→Option Int)(d:((List ByteArray)×DQuota)):=
 (bif (decide (d.2.2<(d.1.length:Int)))then(if 0≤d.2.2 then(d.1[d.2.2.toNat]?).bind fun v0=>
 (bif (decide ((wrapK .i64 (d.2.1-(v0.size:Int)))<(0:Int)))then some (-1:Int)else self (d.1,(wrapK .i64 (d.2.1-(v0.size:Int))),(wrapK .i64 (d.2.2+(1:Int)))))else none)else some d.2.1)
def laws_szStringS(k:Nat)(x0:(List ByteArray))(x1:Int):Option Int:=
 (bif (decide ((wrapK .i64 (x1-(x0.length:Int)))<(0:Int)))then some (-1:Int)else iter k (laws_szStringS_l1 k) (x0,(wrapK .i64 (x1-(x0.length:Int))),(0:Int)))
theorem laws_szStringS_run(k:Nat)(x0:(List ByteArray))(x1:Int):c_laws_szStringS (k+1) (x0,x1)=laws_szStringS k x0 x1:=by kernel_rfl
def laws_szWrite(k:Nat)(x0:DWrite)(x1:Int):Option Int:=
 (bif (decide ((wrapK .i64 (x1-(x0.2.size:Int)))<(0:Int)))then some (-1:Int)else some (wrapK .i64 (x1-(x0.2.size:Int))))
theorem laws_szWrite_run(k:Nat)(x0:DWrite)(x1:Int):c_laws_szWrite (k+1) (x0,x1)=laws_szWrite k x0 x1:=by kernel_rfl
def laws_szWriteS_l1(k:Nat)(self:_→Option Int)(d:((List DWrite)×DQuota)):=
 (bif (decide (d.2.2<(d.1.length:Int)))then(if 0≤d.2.2 then(d.1[d.2.2.toNat]?).bind fun v0=>
 (c_laws_szWrite k (v0,d.2.1)).bind fun v1=>
 (bif (decide (v1<(0:Int)))then some (-1:Int)else self (d.1,v1,(wrapK .i64 (d.2.2+(1:Int)))))else none)else some d.2.1)
def laws_szWriteS(k:Nat)(x0:(List DWrite))(x1:Int):Option Int:=
 (bif (decide ((wrapK .i64 (x1-(x0.length:Int)))<(0:Int)))then some (-1:Int)else iter k (laws_szWriteS_l1 k) (x0,(wrapK .i64 (x1-(x0.length:Int))),(0:Int)))
theorem laws_szWriteS_run(k:Nat)(x0:(List DWrite))(x1:Int):c_laws_szWriteS (k+1) (x0,x1)=laws_szWriteS k x0 x1:=by kernel_rfl
def laws_szDisk(k:Nat)(x0:DDisk)(x1:Int):Option Int:=
 (c_laws_szStringS k (x0.1,x1)).bind fun y1=>
 (bif (decide (y1<(0:Int)))then some (-1:Int)else(c_laws_szWriteS k (x0.2,y1)).bind fun y2=>
 (bif (decide (y2<(0:Int)))then some (-1:Int)else some y2))
theorem laws_szDisk_run(k:Nat)(x0:DDisk)(x1:Int):c_laws_szDisk (k+1) (x0,x1)=laws_szDisk k x0 x1:=by kernel_rfl
def laws_szQuotaS(k:Nat)(x0:(List DQuota))(x1:Int):Option Int:=
 (bif (decide ((wrapK .i64 (x1-(x0.length:Int)))<(0:Int)))then some (-1:Int)else some (wrapK .i64 (x1-(x0.length:Int))))
theorem laws_szQuotaS_run(k:Nat)(x0:(List DQuota))(x1:Int):c_laws_szQuotaS (k+1) (x0,x1)=laws_szQuotaS k x0 x1:=by kernel_rfl
def laws_szIntS(k:Nat)(x0:(List Int))(x1:Int):Option Int:=
 (bif (decide ((wrapK .i64 (x1-(x0.length:Int)))<(0:Int)))then some (-1:Int)else some (wrapK .i64 (x1-(x0.length:Int))))
theorem laws_szIntS_run(k:Nat)(x0:(List Int))(x1:Int):c_laws_szIntS (k+1) (x0,x1)=laws_szIntS k x0 x1:=by kernel_rfl
def laws_szAclEntryS(k:Nat)(x0:(List DOpen))(x1:Int):Option Int:=
 (bif (decide ((wrapK .i64 (x1-(x0.length:Int)))<(0:Int)))then some (-1:Int)else some (wrapK .i64 (x1-(x0.length:Int))))
theorem laws_szAclEntryS_run(k:Nat)(x0:(List DOpen))(x1:Int):c_laws_szAclEntryS (k+1) (x0,x1)=laws_szAclEntryS k x0 x1:=by kernel_rfl
def laws_szInode(k:Nat)(x0:DInode)(x1:Int):Option Int:=
 (c_laws_szIntS k (x0.2.2.2.2.2.2.2.1,x1)).bind fun y1=>
 (bif (decide (y1<(0:Int)))then some (-1:Int)else(c_laws_szAclEntryS k (x0.2.2.2.2.2.2.2.2.1,y1)).bind fun y2=>
 (bif (decide (y2<(0:Int)))then some (-1:Int)else(c_laws_szAclEntryS k (x0.2.2.2.2.2.2.2.2.2,y2)).bind fun y3=>
 (bif (decide (y3<(0:Int)))then some (-1:Int)else some y3)))
theorem laws_szInode_run(k:Nat)(x0:DInode)(x1:Int):c_laws_szInode (k+1) (x0,x1)=laws_szInode k x0 x1:=by kernel_rfl
def laws_szInodeS_l1(k:Nat)(self:_→Option Int)(d:((List DInode)×DQuota)):=
 (bif (decide (d.2.2<(d.1.length:Int)))then(if 0≤d.2.2 then(d.1[d.2.2.toNat]?).bind fun v0=>
 (c_laws_szInode k (v0,d.2.1)).bind fun v1=>
 (bif (decide (v1<(0:Int)))then some (-1:Int)else self (d.1,v1,(wrapK .i64 (d.2.2+(1:Int)))))else none)else some d.2.1)
def laws_szInodeS(k:Nat)(x0:(List DInode))(x1:Int):Option Int:=
 (bif (decide ((wrapK .i64 (x1-(x0.length:Int)))<(0:Int)))then some (-1:Int)else iter k (laws_szInodeS_l1 k) (x0,(wrapK .i64 (x1-(x0.length:Int))),(0:Int)))
theorem laws_szInodeS_run(k:Nat)(x0:(List DInode))(x1:Int):c_laws_szInodeS (k+1) (x0,x1)=laws_szInodeS k x0 x1:=by kernel_rfl
def laws_szFS(k:Nat)(x0:DFS)(x1:Int):Option Int:=
 (c_laws_szQuotaS k (x0.2.1,x1)).bind fun y1=>
 (bif (decide (y1<(0:Int)))then some (-1:Int)else(c_laws_szInodeS k (x0.2.2.1,y1)).bind fun y2=>
 (bif (decide (y2<(0:Int)))then some (-1:Int)else(c_laws_szStringS k (x0.2.2.2,y2)).bind fun y3=>
 (bif (decide (y3<(0:Int)))then some (-1:Int)else some y3)))
theorem laws_szFS_run(k:Nat)(x0:DFS)(x1:Int):c_laws_szFS (k+1) (x0,x1)=laws_szFS k x0 x1:=by kernel_rfl
def laws_szCred(k:Nat)(x0:DCred)(x1:Int):Option Int:=
 (c_laws_szIntS k (x0.2.2,x1)).bind fun y1=>
 (bif (decide (y1<(0:Int)))then some (-1:Int)else some y1)
theorem laws_szCred_run(k:Nat)(x0:DCred)(x1:Int):c_laws_szCred (k+1) (x0,x1)=laws_szCred k x0 x1:=by kernel_rfl
def laws_szOpenS(k:Nat)(x0:(List DOpen))(x1:Int):Option Int:=
 (bif (decide ((wrapK .i64 (x1-(x0.length:Int)))<(0:Int)))then some (-1:Int)else some (wrapK .i64 (x1-(x0.length:Int))))
theorem laws_szOpenS_run(k:Nat)(x0:(List DOpen))(x1:Int):c_laws_szOpenS (k+1) (x0,x1)=laws_szOpenS k x0 x1:=by kernel_rfl
def laws_szProc(k:Nat)(x0:DProc)(x1:Int):Option Int:=
 (c_laws_szCred k (x0.1,x1)).bind fun y1=>
 (bif (decide (y1<(0:Int)))then some (-1:Int)else(c_laws_szOpenS k (x0.2,y1)).bind fun y2=>
 (bif (decide (y2<(0:Int)))then some (-1:Int)else some y2))
theorem laws_szProc_run(k:Nat)(x0:DProc)(x1:Int):c_laws_szProc (k+1) (x0,x1)=laws_szProc k x0 x1:=by kernel_rfl
def laws_szProcS_l1(k:Nat)(self:_→Option Int)(d:((List DProc)×DQuota)):=
 (bif (decide (d.2.2<(d.1.length:Int)))then(if 0≤d.2.2 then(d.1[d.2.2.toNat]?).bind fun v0=>
 (c_laws_szProc k (v0,d.2.1)).bind fun v1=>
 (bif (decide (v1<(0:Int)))then some (-1:Int)else self (d.1,v1,(wrapK .i64 (d.2.2+(1:Int)))))else none)else some d.2.1)
def laws_szProcS(k:Nat)(x0:(List DProc))(x1:Int):Option Int:=
 (bif (decide ((wrapK .i64 (x1-(x0.length:Int)))<(0:Int)))then some (-1:Int)else iter k (laws_szProcS_l1 k) (x0,(wrapK .i64 (x1-(x0.length:Int))),(0:Int)))
theorem laws_szProcS_run(k:Nat)(x0:(List DProc))(x1:Int):c_laws_szProcS (k+1) (x0,x1)=laws_szProcS k x0 x1:=by kernel_rfl
def laws_szSystem(k:Nat)(x0:DSystem)(x1:Int):Option Int:=
 (c_laws_szFS k (x0.1,x1)).bind fun y1=>
 (bif (decide (y1<(0:Int)))then some (-1:Int)else(c_laws_szProcS k (x0.2,y1)).bind fun y2=>
 (bif (decide (y2<(0:Int)))then some (-1:Int)else some y2))
theorem laws_szSystem_run(k:Nat)(x0:DSystem)(x1:Int):c_laws_szSystem (k+1) (x0,x1)=laws_szSystem k x0 x1:=by kernel_rfl
def laws_szMachine(k:Nat)(x0:DMachine)(x1:Int):Option Int:=
 (c_laws_szDisk k (x0.1,x1)).bind fun y1=>
 (bif (decide (y1<(0:Int)))then some (-1:Int)else(c_laws_szSystem k (x0.2.2,y1)).bind fun y2=>
 (bif (decide (y2<(0:Int)))then some (-1:Int)else some y2))
theorem laws_szMachine_run(k:Nat)(x0:DMachine)(x1:Int):c_laws_szMachine (k+1) (x0,x1)=laws_szMachine k x0 x1:=by kernel_rfl
def spec_l01In(k:Nat)(x0:Int)(x1:Int)(x2:Int):Option Bool:=
 (bif (decide (x1≤x0))then some (decide (x0≤x2))else some false)
theorem spec_l01In_run(k:Nat)(x0:Int)(x1:Int)(x2:Int):c_spec_l01In (k+1) (x0,x1,x2)=spec_l01In k x0 x1 x2:=by kernel_rfl
def spec_l02Has_l1(k:Nat)(self:_→Option Bool)(d:(Int×((List Int)×DQuota))):=
 (bif (decide (d.2.2.2<d.2.2.1))then(if 0≤d.2.2.2 then(d.2.1[d.2.2.2.toNat]?).bind fun v0=>
 (bif (v0==d.1)then some true else self (d.1,d.2.1,d.2.2.1,(wrapK .i64 (d.2.2.2+(1:Int)))))else none)else some false)
def spec_l02Has(k:Nat)(x0:(List Int))(x1:Int):Option Bool:=
 iter k (spec_l02Has_l1 k) (x1,x0,(x0.length:Int),(0:Int))
theorem spec_l02Has_run(k:Nat)(x0:(List Int))(x1:Int):c_spec_l02Has (k+1) (x0,x1)=spec_l02Has k x0 x1:=by kernel_rfl
def spec_l02Same_l1(k:Nat)(self:_→Option Bool)(d:((List Int)×((List Int)×DQuota))):=
 (bif (decide (d.2.2.2<d.2.2.1))then(if 0≤d.2.2.2 then(d.2.1[d.2.2.2.toNat]?).bind fun v0=>
 (if 0≤d.2.2.2 then(d.1[d.2.2.2.toNat]?).bind fun v1=>
 (bif (v0 != v1)then some false else self (d.1,d.2.1,d.2.2.1,(wrapK .i64 (d.2.2.2+(1:Int)))))else none)else none)else some true)
def spec_l02Same(k:Nat)(x0:(List Int))(x1:(List Int)):Option Bool:=
 (bif ((x0.length:Int) != (x1.length:Int))then some false else iter k (spec_l02Same_l1 k) (x1,x0,(x0.length:Int),(0:Int)))
theorem spec_l02Same_run(k:Nat)(x0:(List Int))(x1:(List Int)):c_spec_l02Same (k+1) (x0,x1)=spec_l02Same k x0 x1:=by kernel_rfl
def spec_l05Same_l1(k:Nat)(self:_→Option Bool)(d:((List DOpen)×((List DOpen)×DQuota))):=
 (bif (decide (d.2.2.2<d.2.2.1))then(if 0≤d.2.2.2 then(d.2.1[d.2.2.2.toNat]?).bind fun v0=>
 (if 0≤d.2.2.2 then(d.1[d.2.2.2.toNat]?).bind fun v1=>
 (bif (!((v0.1==v1.1)&&((v0.2.1==v1.2.1)&&(v0.2.2==v1.2.2))))then some false else self (d.1,d.2.1,d.2.2.1,(wrapK .i64 (d.2.2.2+(1:Int)))))else none)else none)else some true)
def spec_l05Same(k:Nat)(x0:(List DOpen))(x1:(List DOpen)):Option Bool:=
 (bif ((x0.length:Int) != (x1.length:Int))then some false else iter k (spec_l05Same_l1 k) (x1,x0,(x0.length:Int),(0:Int)))
theorem spec_l05Same_run(k:Nat)(x0:(List DOpen))(x1:(List DOpen)):c_spec_l05Same (k+1) (x0,x1)=spec_l05Same k x0 x1:=by kernel_rfl
def spec_SameInode(k:Nat)(x0:DInode)(x1:DInode):Option Bool:=
 (bif (x0.1 != x1.1)then some false else(bif (x0.2.1 != x1.2.1)then some false else(bif (x0.2.2.1 != x1.2.2.1)then some false else(bif (x0.2.2.2.1 != x1.2.2.2.1)then some false else(bif (x0.2.2.2.2.1 != x1.2.2.2.2.1)then some false else(bif (x0.2.2.2.2.2.1 != x1.2.2.2.2.2.1)then some false else(bif (x0.2.2.2.2.2.2.1 != x1.2.2.2.2.2.2.1)then some false else(c_spec_l02Same k (x0.2.2.2.2.2.2.2.1,x1.2.2.2.2.2.2.2.1)).bind fun y1=>
 (bif y1 then(c_spec_l05Same k (x0.2.2.2.2.2.2.2.2.1,x1.2.2.2.2.2.2.2.2.1)).bind fun y2=>
 (bif y2 then(c_spec_l05Same k (x0.2.2.2.2.2.2.2.2.2,x1.2.2.2.2.2.2.2.2.2)).bind fun y3=>
 some y3 else some false)else some false))))))))
theorem spec_SameInode_run(k:Nat)(x0:DInode)(x1:DInode):c_spec_SameInode (k+1) (x0,x1)=spec_SameInode k x0 x1:=by kernel_rfl
def spec_l06User(k:Nat)(x0:Int):Option Bool:=
 (c_spec_l01In k (x0,(0:Int),(3:Int))).bind fun y1=>
 some y1
theorem spec_l06User_run(k:Nat)(x0:Int):c_spec_l06User (k+1) (x0)=spec_l06User k x0:=by kernel_rfl
def spec_l06Mode(k:Nat)(x0:Int):Option Bool:=
 (c_spec_l01In k (x0,(0:Int),(2047:Int))).bind fun y1=>
 some y1
theorem spec_l06Mode_run(k:Nat)(x0:Int):c_spec_l06Mode (k+1) (x0)=spec_l06Mode k x0:=by kernel_rfl
def spec_BlocksNeeded(k:Nat)(x0:Int):Option Int:=
 (bif (decide (x0≤(0:Int)))then some (0:Int)else(if((32:Int):Int)≠0 then some (wrapK .i64 ((wrapK .i64 ((wrapK .i64 (x0-(1:Int))).tdiv (32:Int)))+(1:Int)))else none))
theorem spec_BlocksNeeded_run(k:Nat)(x0:Int):c_spec_BlocksNeeded (k+1) (x0)=spec_BlocksNeeded k x0:=by kernel_rfl
def spec_l05Entry(k:Nat)(x0:DOpen):Option Bool:=
 (c_spec_l01In k (x0.2.2,(0:Int),(7:Int))).bind fun y1=>
 (bif (!y1)then some false else(bif (x0.1==(1:Int))then(bif (x0.1==(1:Int))then(c_spec_l01In k (x0.2.1,(0:Int),(3:Int))).bind fun y2=>
 some y2 else(bif (x0.1==(3:Int))then some (x0.2.1==(0:Int))else some false))else(bif (x0.1==(2:Int))then(c_spec_l01In k (x0.2.1,(0:Int),(3:Int))).bind fun y3=>
 some y3 else(bif (x0.1==(3:Int))then some (x0.2.1==(0:Int))else some false))))
theorem spec_l05Entry_run(k:Nat)(x0:DOpen):c_spec_l05Entry (k+1) (x0)=spec_l05Entry k x0:=by kernel_rfl
def spec_IsAcl_l1(k:Nat)(self:_→Option Bool)(d:((List DOpen)×((List DOpen)×DQuota))):=
 (bif (decide (d.2.2.2<d.2.2.1))then(if 0≤d.2.2.2 then(d.2.1[d.2.2.2.toNat]?).bind fun v0=>
 (c_spec_l05Entry k v0).bind fun v1=>
 (bif (!v1)then some false else(bif (decide ((0:Int)<d.2.2.2))then(if 0≤(wrapK .i64 (d.2.2.2-(1:Int)))then(d.1[(wrapK .i64 (d.2.2.2-(1:Int))).toNat]?).bind fun v2=>
 (bif (decide (v0.1<v2.1))then some false else(if 0≤(wrapK .i64 (d.2.2.2-(1:Int)))then(d.1[(wrapK .i64 (d.2.2.2-(1:Int))).toNat]?).bind fun v3=>
 (bif (v3.1==v0.1)then(if 0≤(wrapK .i64 (d.2.2.2-(1:Int)))then(d.1[(wrapK .i64 (d.2.2.2-(1:Int))).toNat]?).bind fun v4=>
 (bif (decide (v0.2.1≤v4.2.1))then some false else self (d.1,d.2.1,d.2.2.1,(wrapK .i64 (d.2.2.2+(1:Int)))))else none)else self (d.1,d.2.1,d.2.2.1,(wrapK .i64 (d.2.2.2+(1:Int)))))else none))else none)else self (d.1,d.2.1,d.2.2.1,(wrapK .i64 (d.2.2.2+(1:Int))))))else none)else(bif ((d.1.length:Int)==(0:Int))then some true else(bif (decide ((d.1.length:Int)≤(6:Int)))then(if 0≤(wrapK .i64 ((d.1.length:Int)-(1:Int)))then(d.1[(wrapK .i64 ((d.1.length:Int)-(1:Int))).toNat]?).bind fun v5=>
 some (v5.1==(3:Int))else none)else some false)))
def spec_IsAcl(k:Nat)(x0:(List DOpen)):Option Bool:=
 iter k (spec_IsAcl_l1 k) (x0,x0,(x0.length:Int),(0:Int))
theorem spec_IsAcl_run(k:Nat)(x0:(List DOpen)):c_spec_IsAcl (k+1) (x0)=spec_IsAcl k x0:=by kernel_rfl
def spec_IsInode_l1(k:Nat)(self:_→Option Bool)(d:(Unit×((List Int)×(Int×(Int×DInode))))):=
 let e0:=d.2.2.2.2
 (bif (decide (d.2.2.2.1<d.2.2.1))then(if 0≤d.2.2.2.1 then(d.2.1[d.2.2.2.1.toNat]?).bind fun v0=>
 (c_spec_l01In k (v0,(-1:Int),(999:Int))).bind fun v1=>
 (bif (!v1)then some false else(bif (v0 != (-1:Int))then(if 0≤d.2.2.2.1 then(if d.2.2.2.1≤(e0.2.2.2.2.2.2.2.1.length:Int)then(c_spec_l02Has k (((e0.2.2.2.2.2.2.2.1.take d.2.2.2.1.toNat).drop 0),v0)).bind fun v2=>
 (bif v2 then some false else self ((),d.2.1,d.2.2.1,(wrapK .i64 (d.2.2.2.1+(1:Int))),e0))else none)else none)else self ((),d.2.1,d.2.2.1,(wrapK .i64 (d.2.2.2.1+(1:Int))),e0)))else none)else(joinK (R:=Bool) ((bif (e0.1==(1:Int))then(bif (decide ((0:Int)<(e0.2.2.2.2.2.2.2.2.2.length:Int)))then((some false).map .inr)else(bif ((intBits .and .i64 e0.2.1 (512:Int)) != (0:Int))then((some false).map .inr)else some (.inl ((),e0))))else some (.inl ((),e0)))) fun(v3:(Unit×DInode))=>(c_spec_IsAcl k v3.2.2.2.2.2.2.2.2.2.1).bind fun v4=>
 (bif v4 then(c_spec_IsAcl k v3.2.2.2.2.2.2.2.2.2.2).bind fun v5=>
 some v5 else some false)))
def spec_IsInode(k:Nat)(x0:DInode):Option Bool:=
 (bif (x0.1==(0:Int))then(c_spec_SameInode k (x0,((0:Int),(0:Int),(0:Int),(0:Int),(0:Int),(0:Int),(0:Int),([]:List Int),([]:List DOpen),([]:List DOpen)))).bind fun y1=>
 some y1 else(joinK (R:=Bool) ((bif (x0.1 != (1:Int))then(bif (x0.1 != (2:Int))then((some false).map .inr)else(c_spec_l06Mode k x0.2.1).bind fun y3=>
 (bif (!y3)then((some false).map .inr)else(c_spec_l06User k x0.2.2.1).bind fun y4=>
 (bif (!y4)then((some false).map .inr)else(c_spec_l06User k x0.2.2.2.1).bind fun y5=>
 (bif (!y5)then((some false).map .inr)else(c_spec_l01In k (x0.2.2.2.2.1,(0:Int),(1000:Int))).bind fun y6=>
 (bif (!y6)then((some false).map .inr)else(c_spec_l01In k (x0.2.2.2.2.2.1,(0:Int),(256:Int))).bind fun y7=>
 (bif (!y7)then((some false).map .inr)else(c_spec_l01In k (x0.2.2.2.2.2.2.1,(0:Int),(1000000000:Int))).bind fun y8=>
 (bif (!y8)then((some false).map .inr)else(c_spec_BlocksNeeded k x0.2.2.2.2.2.1).bind fun y9=>
 (bif ((x0.2.2.2.2.2.2.2.1.length:Int) != y9)then((some false).map .inr)else some (.inl ((),x0))))))))))else(c_spec_l06Mode k x0.2.1).bind fun y10=>
 (bif (!y10)then((some false).map .inr)else(c_spec_l06User k x0.2.2.1).bind fun y11=>
 (bif (!y11)then((some false).map .inr)else(c_spec_l06User k x0.2.2.2.1).bind fun y12=>
 (bif (!y12)then((some false).map .inr)else(c_spec_l01In k (x0.2.2.2.2.1,(0:Int),(1000:Int))).bind fun y13=>
 (bif (!y13)then((some false).map .inr)else(c_spec_l01In k (x0.2.2.2.2.2.1,(0:Int),(256:Int))).bind fun y14=>
 (bif (!y14)then((some false).map .inr)else(c_spec_l01In k (x0.2.2.2.2.2.2.1,(0:Int),(1000000000:Int))).bind fun y15=>
 (bif (!y15)then((some false).map .inr)else(c_spec_BlocksNeeded k x0.2.2.2.2.2.1).bind fun y16=>
 (bif ((x0.2.2.2.2.2.2.2.1.length:Int) != y16)then((some false).map .inr)else some (.inl ((),x0))))))))))) fun(d2:(Unit×DInode))=>iter k (spec_IsInode_l1 k) ((),d2.2.2.2.2.2.2.2.2.1,(d2.2.2.2.2.2.2.2.2.1.length:Int),(0:Int),d2.2)))
theorem spec_IsInode_run(k:Nat)(x0:DInode):c_spec_IsInode (k+1) (x0)=spec_IsInode k x0:=by kernel_rfl
def spec_BlockOwner(k:Nat)(x0:Int):Option Int:=
 (c_spec_l01In k (x0,(0:Int),(55:Int))).bind fun y1=>
 (bif (!y1)then some (-1:Int)else(if((14:Int):Int)≠0 then some (wrapK .i64 (x0.tdiv (14:Int)))else none))
theorem spec_BlockOwner_run(k:Nat)(x0:Int):c_spec_BlockOwner (k+1) (x0)=spec_BlockOwner k x0:=by kernel_rfl
def spec_l08Used_l1(k:Nat)(a0:_→Option ((List Bool)×Bool))(self:_→Option ((List Bool)×Bool))(d:((List Bool)×(Unit×((List DInode)×(Int×(Int×((List Int)×(Int×(Int×DInode))))))))):=
 let e0:=d.2.2.2.2
 (bif (decide (e0.2.2.2.1<e0.2.2.1))then(if 0≤e0.2.2.2.1 then(e0.2.1[e0.2.2.2.1.toNat]?).bind fun v0=>
 (bif (v0==(-1:Int))then self (d.1,(),d.2.2.1,d.2.2.2.1,e0.1,e0.2.1,e0.2.2.1,(wrapK .i64 (e0.2.2.2.1+(1:Int))),e0.2.2.2.2)else(c_spec_BlockOwner k v0).bind fun v1=>
 (bif (v1 != e0.2.2.2.2.2.2.1)then some (([]:List Bool),false)else(if 0≤v0 then(if v0<(d.1.length:Int)then(d.1[v0.toNat]?).bind fun v2=>
 (bif v2 then some (([]:List Bool),false)else(if 0≤v0 then(if v0<(d.1.length:Int)then(d.1[v0.toNat]?).bind fun v3=>
 self ((d.1.set v0.toNat true),(),d.2.2.1,d.2.2.2.1,e0.1,e0.2.1,e0.2.2.1,(wrapK .i64 (e0.2.2.2.1+(1:Int))),e0.2.2.2.2)else none)else none))else none)else none)))else none)else a0 (d.1,d.2.2.1,d.2.2.2.1,(wrapK .i64 (e0.1+(1:Int)))))
def spec_l08Used_l2(k:Nat)(self:_→Option ((List Bool)×Bool))(d:((List Bool)×((List DInode)×DQuota))):=
 (bif (decide (d.2.2.2<d.2.2.1))then(if 0≤d.2.2.2 then(d.2.1[d.2.2.2.toNat]?).bind fun v0=>
 iter k (spec_l08Used_l1 k self) (d.1,(),d.2.1,d.2.2.1,d.2.2.2,v0.2.2.2.2.2.2.2.1,(v0.2.2.2.2.2.2.2.1.length:Int),(0:Int),v0)else none)else some (d.1,true))
def spec_l08Used(k:Nat)(x0:DFS):Option ((List Bool)×Bool):=
 (if 0≤(56:Int)then(if(56:Int)≤(56:Int)then(if(56:Int)*1≤(capBytes:Int)then iter k (spec_l08Used_l2 k) ((List.replicate (56:Int).toNat false),x0.2.2.1,(x0.2.2.1.length:Int),(0:Int))else none)else none)else none)
theorem spec_l08Used_run(k:Nat)(x0:DFS):c_spec_l08Used (k+1) (x0)=spec_l08Used k x0:=by kernel_rfl
def spec_IsZeroes_l1(k:Nat)(self:_→Option Bool)(d:DerrorAddressString):=
 (bif (decide (d.2<(d.1.size:Int)))then(if 0≤d.2 then((d.1[d.2.toNat]?.map fun v0=>(v0.toNat:Int))).bind fun v1=>
 (bif (v1 != (0:Int))then some false else self (d.1,(wrapK .i64 (d.2+(1:Int)))))else none)else some true)
def spec_IsZeroes(k:Nat)(x0:ByteArray):Option Bool:=
 iter k (spec_IsZeroes_l1 k) (x0,(0:Int))
theorem spec_IsZeroes_run(k:Nat)(x0:ByteArray):c_spec_IsZeroes (k+1) (x0)=spec_IsZeroes k x0:=by kernel_rfl
def spec_IsFS_l1(k:Nat)(self:_→Option Bool)(d:(Unit×((List DInode)×(Int×(Int×DFS))))):=
 let e0:=d.2.2.2.2
 (bif (decide (d.2.2.2.1<d.2.2.1))then(if 0≤d.2.2.2.1 then(d.2.1[d.2.2.2.1.toNat]?).bind fun v0=>
 (bif (decide ((0:Int)≤(wrapK .i64 ((v0.2.2.2.2.2.2.2.1.length:Int)-(1:Int)))))then(if 0≤(wrapK .i64 ((v0.2.2.2.2.2.2.2.1.length:Int)-(1:Int)))then(v0.2.2.2.2.2.2.2.1[(wrapK .i64 ((v0.2.2.2.2.2.2.2.1.length:Int)-(1:Int))).toNat]?).bind fun v1=>
 (bif (v1 != (-1:Int))then(if 0≤(wrapK .i64 ((v0.2.2.2.2.2.2.2.1.length:Int)-(1:Int)))then(v0.2.2.2.2.2.2.2.1[(wrapK .i64 ((v0.2.2.2.2.2.2.2.1.length:Int)-(1:Int))).toNat]?).bind fun v2=>
 (if 0≤v2 then(e0.2.2.2[v2.toNat]?).bind fun v3=>
 (if 0≤(wrapK .i64 (v0.2.2.2.2.2.1-(wrapK .i64 ((wrapK .i64 ((v0.2.2.2.2.2.2.2.1.length:Int)-(1:Int)))*(32:Int)))))then(if(wrapK .i64 (v0.2.2.2.2.2.1-(wrapK .i64 ((wrapK .i64 ((v0.2.2.2.2.2.2.2.1.length:Int)-(1:Int)))*(32:Int)))))≤(v3.size:Int)then(c_spec_IsZeroes k (v3.extract ((wrapK .i64 (v0.2.2.2.2.2.1-(wrapK .i64 ((wrapK .i64 ((v0.2.2.2.2.2.2.2.1.length:Int)-(1:Int)))*(32:Int))))).toNat) v3.size)).bind fun v4=>
 (bif (!v4)then some false else self ((),d.2.1,d.2.2.1,(wrapK .i64 (d.2.2.2.1+(1:Int))),e0))else none)else none)else none)else none)else self ((),d.2.1,d.2.2.1,(wrapK .i64 (d.2.2.2.1+(1:Int))),e0))else none)else self ((),d.2.1,d.2.2.1,(wrapK .i64 (d.2.2.2.1+(1:Int))),e0))else none)else some true)
def spec_IsFS_l2(k:Nat)(self:_→Option Bool)(d:(Unit×((List Bool)×((List ByteArray)×(Int×(Int×DFS)))))):=
 let e0:=d.2.2.2.2
 (bif (decide (e0.1<d.2.2.2.1))then(if 0≤e0.1 then(d.2.2.1[e0.1.toNat]?).bind fun v0=>
 (bif ((v0.size:Int) != (32:Int))then some false else(if 0≤e0.1 then(if e0.1<(d.2.1.length:Int)then(d.2.1[e0.1.toNat]?).bind fun v1=>
 (bif (!v1)then(c_spec_IsZeroes k v0).bind fun v2=>
 (bif (!v2)then some false else self ((),d.2.1,d.2.2.1,d.2.2.2.1,(wrapK .i64 (e0.1+(1:Int))),e0.2))else self ((),d.2.1,d.2.2.1,d.2.2.2.1,(wrapK .i64 (e0.1+(1:Int))),e0.2))else none)else none))else none)else iter k (spec_IsFS_l1 k) ((),e0.2.2.2.1,(e0.2.2.2.1.length:Int),(0:Int),e0.2))
def spec_IsFS_l3(k:Nat)(self:_→Option Bool)(d:(Unit×((List DInode)×(Int×(Int×DFS))))):=
 let e0:=d.2.2.2.2
 (bif (decide (d.2.2.2.1<d.2.2.1))then(if 0≤d.2.2.2.1 then(d.2.1[d.2.2.2.1.toNat]?).bind fun v0=>
 (c_spec_IsInode k v0).bind fun v1=>
 (bif (!v1)then some false else self ((),d.2.1,d.2.2.1,(wrapK .i64 (d.2.2.2.1+(1:Int))),e0))else none)else(if 0≤(0:Int)then(e0.2.2.1[(0:Int).toNat]?).bind fun v2=>
 (bif (v2.1 != (2:Int))then some false else(c_spec_l08Used k e0).bind fun v3=>
 (bif (!v3.2)then some false else iter k (spec_IsFS_l2 k) ((),v3.1,e0.2.2.2,(e0.2.2.2.length:Int),(0:Int),e0)))else none))
def spec_IsFS_l4(k:Nat)(self:_→Option Bool)(d:(Unit×((List DQuota)×(Int×(Int×DFS))))):=
 let e0:=d.2.2.2.2
 (bif (decide (d.2.2.2.1<d.2.2.1))then(if 0≤d.2.2.2.1 then(d.2.1[d.2.2.2.1.toNat]?).bind fun v0=>
 (c_spec_l01In k (v0.1,(0:Int),(5:Int))).bind fun v1=>
 (bif (!v1)then some false else(c_spec_l01In k (v0.2,(0:Int),(14:Int))).bind fun v2=>
 (bif (!v2)then some false else self ((),d.2.1,d.2.2.1,(wrapK .i64 (d.2.2.2.1+(1:Int))),e0)))else none)else iter k (spec_IsFS_l3 k) ((),e0.2.2.1,(e0.2.2.1.length:Int),(0:Int),e0))
def spec_IsFS(k:Nat)(x0:DFS):Option Bool:=
 (c_spec_l01In k (x0.1,(0:Int),(1000000000:Int))).bind fun y1=>
 (bif (!y1)then some false else(bif ((x0.2.1.length:Int) != (4:Int))then some false else(bif ((x0.2.2.1.length:Int) != (20:Int))then some false else(bif ((x0.2.2.2.length:Int) != (56:Int))then some false else iter k (spec_IsFS_l4 k) ((),x0.2.1,(x0.2.1.length:Int),(0:Int),x0)))))
theorem spec_IsFS_run(k:Nat)(x0:DFS):c_spec_IsFS (k+1) (x0)=spec_IsFS k x0:=by kernel_rfl
def spec_IsCred_l1(k:Nat)(self:_→Option Bool)(d:(Unit×((List Int)×(Int×(Int×DCred))))):=
 let e0:=d.2.2.2.2
 (bif (decide (d.2.2.2.1<d.2.2.1))then(if 0≤d.2.2.2.1 then(d.2.1[d.2.2.2.1.toNat]?).bind fun v0=>
 (c_spec_l06User k v0).bind fun v1=>
 (bif (!v1)then some false else(bif (decide ((0:Int)<d.2.2.2.1))then(if 0≤(wrapK .i64 (d.2.2.2.1-(1:Int)))then(e0.2.2[(wrapK .i64 (d.2.2.2.1-(1:Int))).toNat]?).bind fun v2=>
 (bif (decide (v0≤v2))then some false else self ((),d.2.1,d.2.2.1,(wrapK .i64 (d.2.2.2.1+(1:Int))),e0))else none)else self ((),d.2.1,d.2.2.1,(wrapK .i64 (d.2.2.2.1+(1:Int))),e0)))else none)else(c_spec_l06User k e0.1).bind fun v3=>
 (bif v3 then(c_spec_l06User k e0.2.1).bind fun v4=>
 some v4 else some false))
def spec_IsCred(k:Nat)(x0:DCred):Option Bool:=
 iter k (spec_IsCred_l1 k) ((),x0.2.2,(x0.2.2.length:Int),(0:Int),x0)
theorem spec_IsCred_run(k:Nat)(x0:DCred):c_spec_IsCred (k+1) (x0)=spec_IsCred k x0:=by kernel_rfl
def spec_l16Open(k:Nat)(x0:DFS)(x1:DOpen):Option Bool:=
 (bif (x1.2.2==(0:Int))then some ((x1.1==(0:Int))&&((x1.2.1==(0:Int))&&(x1.2.2==(0:Int))))else(c_spec_l01In k (x1.2.2,(1:Int),(63:Int))).bind fun y1=>
 (bif y1 then(bif ((intBits .and .i64 x1.2.2 (6:Int)) != (0:Int))then(c_spec_l01In k (x1.1,(0:Int),(19:Int))).bind fun y2=>
 (bif y2 then(if 0≤x1.1 then(x0.2.2.1[x1.1.toNat]?).bind fun y3=>
 (bif (y3.1==(1:Int))then(c_spec_l01In k (x1.2.1,(0:Int),(1000000:Int))).bind fun y4=>
 some y4 else some false)else none)else some false)else some false)else some false))
theorem spec_l16Open_run(k:Nat)(x0:DFS)(x1:DOpen):c_spec_l16Open (k+1) (x0,x1)=spec_l16Open k x0 x1:=by kernel_rfl
def spec_l16Busy_l1(k:Nat)(a0:_→Option (List Int))(self:_→Option (List Int))(d:(Unit×((List Int)×(Int×(Bool×((List DProc)×(Int×(Int×((List DOpen)×(Int×(Int×DSystem))))))))))):=
 let e0:=d.2.2.2.2
 let e1:=e0.2.2.2.2
 (bif (decide (e1.2.1<e1.1))then(if 0≤e1.2.1 then(e0.2.2.2.1[e1.2.1.toNat]?).bind fun v0=>
 (bif d.2.2.2.1 then self ((),d.2.1,d.2.2.1,true,e0.1,e0.2.1,e0.2.2.1,e0.2.2.2.1,e1.1,(wrapK .i64 (e1.2.1+(1:Int))),e1.2.2)else(bif (v0.2.2 != (0:Int))then self ((),d.2.1,d.2.2.1,(v0.1==d.2.2.1),e0.1,e0.2.1,e0.2.2.1,e0.2.2.2.1,e1.1,(wrapK .i64 (e1.2.1+(1:Int))),e1.2.2)else self ((),d.2.1,d.2.2.1,false,e0.1,e0.2.1,e0.2.2.1,e0.2.2.2.1,e1.1,(wrapK .i64 (e1.2.1+(1:Int))),e1.2.2)))else none)else a0 ((),d.2.1,d.2.2.1,d.2.2.2.1,e0.1,e0.2.1,(wrapK .i64 (e0.2.2.1+(1:Int))),e1.2.2))
def spec_l16Busy_l2(k:Nat)(a0:_→Option (List Int))(self:_→Option (List Int))(d:(Unit×((List Int)×(Int×(Bool×((List DProc)×(Int×(Int×DSystem)))))))):=
 let e0:=d.2.2.2.2
 (bif (decide (e0.2.2.1<e0.2.1))then(if 0≤e0.2.2.1 then(e0.1[e0.2.2.1.toNat]?).bind fun v0=>
 iter k (spec_l16Busy_l1 k self) ((),d.2.1,d.2.2.1,d.2.2.2.1,e0.1,e0.2.1,e0.2.2.1,v0.2,(v0.2.length:Int),(0:Int),e0.2.2.2)else none)else(bif d.2.2.2.1 then(if(d.2.1.length+([d.2.2.1]:List Int).length)*8≤capBytes then a0 ((),(d.2.1++([d.2.2.1]:List Int)),(wrapK .i64 (d.2.2.1+(1:Int))),e0.2.2.2)else none)else a0 ((),d.2.1,(wrapK .i64 (d.2.2.1+(1:Int))),e0.2.2.2)))
def spec_l16Busy_l3(k:Nat)(self:_→Option (List Int))(d:(Unit×((List Int)×(Int×DSystem)))):=
 (bif (decide (d.2.2.1<(20:Int)))then iter k (spec_l16Busy_l2 k self) ((),d.2.1,d.2.2.1,false,d.2.2.2.2,(d.2.2.2.2.length:Int),(0:Int),d.2.2.2)else some d.2.1)
def spec_l16Busy(k:Nat)(x0:DSystem):Option (List Int):=
 iter k (spec_l16Busy_l3 k) ((),([]:List Int),(0:Int),x0)
theorem spec_l16Busy_run(k:Nat)(x0:DSystem):c_spec_l16Busy (k+1) (x0)=spec_l16Busy k x0:=by kernel_rfl
def spec_IsSystem_l1(k:Nat)(a0:_→Option Bool)(self:_→Option Bool)(d:(Unit×((List DProc)×(Int×(Int×((List DOpen)×(Int×(Int×DSystem)))))))):=
 let e0:=d.2.2.2.2
 (bif (decide (e0.2.2.1<e0.2.1))then(if 0≤e0.2.2.1 then(e0.1[e0.2.2.1.toNat]?).bind fun v0=>
 (c_spec_l16Open k (e0.2.2.2.1,v0)).bind fun v1=>
 (bif (!v1)then some false else self ((),d.2.1,d.2.2.1,d.2.2.2.1,e0.1,e0.2.1,(wrapK .i64 (e0.2.2.1+(1:Int))),e0.2.2.2))else none)else a0 ((),d.2.1,d.2.2.1,(wrapK .i64 (d.2.2.2.1+(1:Int))),e0.2.2.2))
def spec_IsSystem_l2(k:Nat)(self:_→Option Bool)(d:((List Int)×((List DInode)×DQuota))):=
 (bif (decide (d.2.2.2<d.2.2.1))then(if 0≤d.2.2.2 then(d.2.1[d.2.2.2.toNat]?).bind fun v0=>
 (bif (v0.1==(1:Int))then(bif (v0.2.2.2.2.1==(0:Int))then(c_spec_l02Has k (d.1,d.2.2.2)).bind fun v1=>
 (bif (!v1)then some false else self (d.1,d.2.1,d.2.2.1,(wrapK .i64 (d.2.2.2+(1:Int)))))else self (d.1,d.2.1,d.2.2.1,(wrapK .i64 (d.2.2.2+(1:Int)))))else self (d.1,d.2.1,d.2.2.1,(wrapK .i64 (d.2.2.2+(1:Int)))))else none)else some true)
def spec_IsSystem_l3(k:Nat)(self:_→Option Bool)(d:(Unit×((List DProc)×(Int×(Int×DSystem))))):=
 let e0:=d.2.2.2.2
 (bif (decide (d.2.2.2.1<d.2.2.1))then(if 0≤d.2.2.2.1 then(d.2.1[d.2.2.2.1.toNat]?).bind fun v0=>
 (c_spec_IsCred k v0.1).bind fun v1=>
 (bif (!v1)then some false else(bif ((v0.2.length:Int) != (3:Int))then some false else iter k (spec_IsSystem_l1 k self) ((),d.2.1,d.2.2.1,d.2.2.2.1,v0.2,(v0.2.length:Int),(0:Int),e0)))else none)else(c_spec_l16Busy k e0).bind fun v2=>
 iter k (spec_IsSystem_l2 k) (v2,e0.1.2.2.1,(e0.1.2.2.1.length:Int),(0:Int)))
def spec_IsSystem(k:Nat)(x0:DSystem):Option Bool:=
 (c_spec_IsFS k x0.1).bind fun y1=>
 (bif (!y1)then some false else(bif ((x0.2.length:Int) != (4:Int))then some false else iter k (spec_IsSystem_l3 k) ((),x0.2,(x0.2.length:Int),(0:Int),x0)))
theorem spec_IsSystem_run(k:Nat)(x0:DSystem):c_spec_IsSystem (k+1) (x0)=spec_IsSystem k x0:=by kernel_rfl
def spec_IsDisk_l1(k:Nat)(self:_→Option Bool)(d:(Unit×((List DWrite)×(Int×(Int×DDisk))))):=
 let e0:=d.2.2.2.2
 (bif (decide (d.2.2.2.1<d.2.2.1))then(if 0≤d.2.2.2.1 then(d.2.1[d.2.2.2.1.toNat]?).bind fun v0=>
 (c_spec_l01In k (v0.1,(0:Int),(wrapK .i64 ((e0.1.length:Int)-(1:Int))))).bind fun v1=>
 (bif (!v1)then some false else(bif ((v0.2.size:Int) != (32:Int))then some false else self ((),d.2.1,d.2.2.1,(wrapK .i64 (d.2.2.2.1+(1:Int))),e0)))else none)else(bif (decide ((e0.1.length:Int)≤(400:Int)))then some (decide ((e0.2.length:Int)≤(400:Int)))else some false))
def spec_IsDisk_l2(k:Nat)(self:_→Option Bool)(d:(Unit×((List ByteArray)×(Int×(Int×DDisk))))):=
 let e0:=d.2.2.2.2
 (bif (decide (d.2.2.2.1<d.2.2.1))then(if 0≤d.2.2.2.1 then(d.2.1[d.2.2.2.1.toNat]?).bind fun v0=>
 (bif ((v0.size:Int) != (32:Int))then some false else self ((),d.2.1,d.2.2.1,(wrapK .i64 (d.2.2.2.1+(1:Int))),e0))else none)else iter k (spec_IsDisk_l1 k) ((),e0.2,(e0.2.length:Int),(0:Int),e0))
def spec_IsDisk(k:Nat)(x0:DDisk):Option Bool:=
 iter k (spec_IsDisk_l2 k) ((),x0.1,(x0.1.length:Int),(0:Int),x0)
theorem spec_IsDisk_run(k:Nat)(x0:DDisk):c_spec_IsDisk (k+1) (x0)=spec_IsDisk k x0:=by kernel_rfl
def spec_l03Read_l1(k:Nat)(self:_→Option ByteArray)(d:(Int×(Unit×(Int×DDisk)))):=
 (bif (decide ((0:Int)≤d.2.2.1))then(if 0≤d.2.2.1 then(d.2.2.2.2[d.2.2.1.toNat]?).bind fun v0=>
 (bif (v0.1==d.1)then(if 0≤d.2.2.1 then(d.2.2.2.2[d.2.2.1.toNat]?).bind fun v1=>
 some v1.2 else none)else self (d.1,(),(wrapK .i64 (d.2.2.1-(1:Int))),d.2.2.2))else none)else(if 0≤d.1 then(d.2.2.2.1[d.1.toNat]?).bind fun v2=>
 some v2 else none))
def spec_l03Read(k:Nat)(x0:DDisk)(x1:Int):Option ByteArray:=
 iter k (spec_l03Read_l1 k) (x1,(),(wrapK .i64 ((x0.2.length:Int)-(1:Int))),x0)
theorem spec_l03Read_run(k:Nat)(x0:DDisk)(x1:Int):c_spec_l03Read (k+1) (x0,x1)=spec_l03Read k x0 x1:=by kernel_rfl
def spec_GetNumber_l1(k:Nat)(self:_→Option (Int×Bool))(d:(ByteArray×(Int×DOpen))):=
 let e0:=d.2.2.2.2
 (bif (decide (e0<d.2.2.1))then(if 0≤(wrapK .i64 (d.2.1+e0))then((d.1[(wrapK .i64 (d.2.1+e0)).toNat]?.map fun v0=>(v0.toNat:Int))).bind fun v1=>
 self (d.1,d.2.1,d.2.2.1,(wrapK .i64 ((wrapK .i64 ((256:Int)*d.2.2.2.1))+(wrapK .i64 v1))),(wrapK .i64 (e0+(1:Int))))else none)else some (d.2.2.2.1,true))
def spec_GetNumber(k:Nat)(x0:ByteArray)(x1:Int)(x2:Int):Option (Int×Bool):=
 (c_spec_l01In k (x2,(1:Int),(6:Int))).bind fun y1=>
 (bif (!y1)then some ((0:Int),false)else(bif (decide (x1<(0:Int)))then some ((0:Int),false)else(bif (decide ((wrapK .i64 ((x0.size:Int)-x2))<x1))then some ((0:Int),false)else iter k (spec_GetNumber_l1 k) (x0,x1,x2,(0:Int),(0:Int)))))
theorem spec_GetNumber_run(k:Nat)(x0:ByteArray)(x1:Int)(x2:Int):c_spec_GetNumber (k+1) (x0,x1,x2)=spec_GetNumber k x0 x1 x2:=by kernel_rfl
def spec_IsTxn_l1(k:Nat)(self:_→Option Bool)(d:((List DWrite)×(Unit×((List DWrite)×(Int×(Int×DDisk)))))):=
 let e0:=d.2.2.2.2
 (bif (decide (e0.1<d.2.2.2.1))then(if 0≤e0.1 then(d.2.2.1[e0.1.toNat]?).bind fun v0=>
 (c_spec_l01In k (v0.1,(0:Int),(wrapK .i64 ((e0.2.1.length:Int)-(1:Int))))).bind fun v1=>
 (bif (!v1)then some false else(c_spec_l01In k (v0.1,(1:Int),(69:Int))).bind fun v2=>
 (bif v2 then some false else(bif ((v0.2.size:Int) != (32:Int))then some false else(bif (decide ((0:Int)<e0.1))then(if 0≤(wrapK .i64 (e0.1-(1:Int)))then(d.1[(wrapK .i64 (e0.1-(1:Int))).toNat]?).bind fun v3=>
 (bif (decide (v0.1≤v3.1))then some false else self (d.1,(),d.2.2.1,d.2.2.2.1,(wrapK .i64 (e0.1+(1:Int))),e0.2))else none)else self (d.1,(),d.2.2.1,d.2.2.2.1,(wrapK .i64 (e0.1+(1:Int))),e0.2)))))else none)else some true)
def spec_IsTxn(k:Nat)(x0:DDisk)(x1:(List DWrite)):Option Bool:=
 (c_spec_IsDisk k x0).bind fun y1=>
 (bif (!y1)then some false else(bif (decide ((x0.1.length:Int)<(70:Int)))then some false else(c_spec_l01In k ((x1.length:Int),(1:Int),(64:Int))).bind fun y2=>
 (bif (!y2)then some false else iter k (spec_IsTxn_l1 k) (x1,(),x1,(x1.length:Int),(0:Int),x0))))
theorem spec_IsTxn_run(k:Nat)(x0:DDisk)(x1:(List DWrite)):c_spec_IsTxn (k+1) (x0,x1)=spec_IsTxn k x0 x1:=by kernel_rfl
def spec_PadTo_l1(k:Nat)(self:_→Option ByteArray)(d:(Int×(List Int))):=
 (bif (decide ((d.2.length:Int)<d.1))then(if(d.2.length+([(0:Int)]:List Int).length)*1≤capBytes then self (d.1,(d.2++([(0:Int)]:List Int)))else none)else some (ofBytes d.2))
def spec_PadTo(k:Nat)(x0:ByteArray)(x1:Int):Option ByteArray:=
 (bif (decide ((100000:Int)<x1))then some (⟨#[]⟩:ByteArray)else iter k (spec_PadTo_l1 k) (x1,(bytesOf x0)))
theorem spec_PadTo_run(k:Nat)(x0:ByteArray)(x1:Int):c_spec_PadTo (k+1) (x0,x1)=spec_PadTo k x0 x1:=by kernel_rfl
def spec_l04Ok_l1(k:Nat)(self:_→Option Bool)(d:((List DWrite)×((List DWrite)×DQuota))):=
 (bif (decide (d.2.2.2<d.2.2.1))then(if 0≤d.2.2.2 then(d.2.1[d.2.2.2.toNat]?).bind fun v0=>
 (c_spec_l01In k (v0.1,(0:Int),(399:Int))).bind fun v1=>
 (bif (!v1)then some false else self (d.1,d.2.1,d.2.2.1,(wrapK .i64 (d.2.2.2+(1:Int)))))else none)else(c_spec_l01In k ((d.1.length:Int),(1:Int),(64:Int))).bind fun v2=>
 some v2)
def spec_l04Ok(k:Nat)(x0:(List DWrite)):Option Bool:=
 iter k (spec_l04Ok_l1 k) (x0,x0,(x0.length:Int),(0:Int))
theorem spec_l04Ok_run(k:Nat)(x0:(List DWrite)):c_spec_l04Ok (k+1) (x0)=spec_l04Ok k x0:=by kernel_rfl
def spec_PutNumber_l1(k:Nat)(self:_→Option ByteArray)(d:(Int×((List Int)×Int))):=
 (bif (decide ((0:Int)≤d.2.2))then(if((256:Int):Int)≠0 then(if 0≤d.2.2 then(if d.2.2<(d.2.1.length:Int)then(d.2.1[d.2.2.toNat]?).bind fun v0=>
 (if((256:Int):Int)≠0 then self ((wrapK .i64 (d.1.tdiv (256:Int))),(d.2.1.set d.2.2.toNat (wrapK .u8 (d.1.tmod (256:Int)))),(wrapK .i64 (d.2.2-(1:Int))))else none)else none)else none)else none)else some (ofBytes d.2.1))
def spec_PutNumber(k:Nat)(x0:Int)(x1:Int):Option ByteArray:=
 (c_spec_l01In k (x1,(1:Int),(6:Int))).bind fun y1=>
 (bif (!y1)then some (⟨#[]⟩:ByteArray)else(bif (decide (x0<(0:Int)))then some (⟨#[]⟩:ByteArray)else(if 0≤(wrapK .u64 ((8:Int)*(wrapK .u64 x1)))then(bif (decide ((wrapK .i64 ((1:Int)*2 ^(min (wrapK .u64 ((8:Int)*(wrapK .u64 x1))).toNat (IntKind.bits .i64))))≤x0))then some (⟨#[]⟩:ByteArray)else(if 0≤x1 then(if x1≤x1 then(if x1*1≤(capBytes:Int)then iter k (spec_PutNumber_l1 k) (x0,(List.replicate x1.toNat (0:Int)),(wrapK .i64 (x1-(1:Int))))else none)else none)else none))else none)))
theorem spec_PutNumber_run(k:Nat)(x0:Int)(x1:Int):c_spec_PutNumber (k+1) (x0,x1)=spec_PutNumber k x0 x1:=by kernel_rfl
def spec_ChecksumOf_l1(k:Nat)(self:_→Option Int)(d:(ByteArray×DOpen)):=
 (bif (decide (d.2.2.2<(d.1.size:Int)))then(if 0≤d.2.2.2 then((d.1[d.2.2.2.toNat]?.map fun v0=>(v0.toNat:Int))).bind fun v1=>
 (if((65521:Int):Int)≠0 then(if((65521:Int):Int)≠0 then self (d.1,((wrapK .i64 (d.2.1+(wrapK .i64 v1))).tmod (65521:Int)),((wrapK .i64 (d.2.2.1+((wrapK .i64 (d.2.1+(wrapK .i64 v1))).tmod (65521:Int)))).tmod (65521:Int)),(wrapK .i64 (d.2.2.2+(1:Int))))else none)else none)else none)else some (wrapK .i64 ((wrapK .i64 (d.2.2.1*(65536:Int)))+d.2.1)))
def spec_ChecksumOf(k:Nat)(x0:ByteArray):Option Int:=
 iter k (spec_ChecksumOf_l1 k) (x0,(1:Int),(0:Int),(0:Int))
theorem spec_ChecksumOf_run(k:Nat)(x0:ByteArray):c_spec_ChecksumOf (k+1) (x0)=spec_ChecksumOf k x0:=by kernel_rfl
def spec_CommitSector_l1(k:Nat)(self:_→Option ByteArray)(d:(Int×((List DWrite)×(ByteArray×((List DWrite)×DQuota))))):=
 let e0:=d.2.2.2.2
 (bif (decide (e0.2<e0.1))then(if 0≤e0.2 then(d.2.2.2.1[e0.2.toNat]?).bind fun v0=>
 (c_spec_PutNumber k (v0.1,(2:Int))).bind fun v1=>
 (if d.2.2.1.size+v1.size≤9223372036854775807 then(if(d.2.2.1++v1).size+v0.2.size≤9223372036854775807 then self (d.1,d.2.1,((d.2.2.1++v1)++v0.2),d.2.2.2.1,e0.1,(wrapK .i64 (e0.2+(1:Int))))else none)else none)else none)else(c_spec_PutNumber k (d.1,(4:Int))).bind fun v2=>
 (if(⟨#[74,82,78,76]⟩:ByteArray).size+v2.size≤9223372036854775807 then(c_spec_PutNumber k ((d.2.1.length:Int),(2:Int))).bind fun v3=>
 (if((⟨#[74,82,78,76]⟩:ByteArray)++v2).size+v3.size≤9223372036854775807 then(c_spec_ChecksumOf k d.2.2.1).bind fun v4=>
 (c_spec_PutNumber k (v4,(4:Int))).bind fun v5=>
 (if(((⟨#[74,82,78,76]⟩:ByteArray)++v2)++v3).size+v5.size≤9223372036854775807 then(c_spec_PadTo k (((((⟨#[74,82,78,76]⟩:ByteArray)++v2)++v3)++v5),(32:Int))).bind fun v6=>
 some v6 else none)else none)else none))
def spec_CommitSector(k:Nat)(x0:Int)(x1:(List DWrite)):Option ByteArray:=
 (c_spec_l01In k (x0,(0:Int),(1000000000:Int))).bind fun y1=>
 (bif (!y1)then some (⟨#[]⟩:ByteArray)else(c_spec_l04Ok k x1).bind fun y2=>
 (bif (!y2)then some (⟨#[]⟩:ByteArray)else iter k (spec_CommitSector_l1 k) (x0,x1,(⟨#[]⟩:ByteArray),x1,(x1.length:Int),(0:Int))))
theorem spec_CommitSector_run(k:Nat)(x0:Int)(x1:(List DWrite)):c_spec_CommitSector (k+1) (x0,x1)=spec_CommitSector k x0 x1:=by kernel_rfl
def spec_ReadJournal_l1(k:Nat)(self:_→Option (Int×((List DWrite)×Bool)))(d:(Unit×(ByteArray×(Int×(Int×((List DWrite)×(Int×DDisk))))))):=
 let e0:=d.2.2.2.2
 (bif (decide (e0.2.1<d.2.2.2.1))then(if((16:Int):Int)≠0 then(c_spec_l03Read k (e0.2.2,(wrapK .i64 ((2:Int)+(wrapK .i64 (e0.2.1.tdiv (16:Int))))))).bind fun v0=>
 (if((16:Int):Int)≠0 then(c_spec_GetNumber k (v0,(wrapK .i64 ((2:Int)*(e0.2.1.tmod (16:Int)))),(2:Int))).bind fun v1=>
 (c_spec_l03Read k (e0.2.2,(wrapK .i64 ((6:Int)+e0.2.1)))).bind fun v2=>
 (if(e0.1.length+([(v1.1,v2)]:List DWrite).length)*24≤capBytes then self ((),d.2.1,d.2.2.1,d.2.2.2.1,(e0.1++([(v1.1,v2)]:List DWrite)),(wrapK .i64 (e0.2.1+(1:Int))),e0.2.2)else none)else none)else none)else(c_spec_IsTxn k (e0.2.2,e0.1)).bind fun v3=>
 (bif (!v3)then some ((0:Int),([]:List DWrite),false)else(c_spec_CommitSector k (d.2.2.1,e0.1)).bind fun v4=>
 (bif (!(eqS v4 d.2.1))then some ((0:Int),([]:List DWrite),false)else some (d.2.2.1,e0.1,true))))
def spec_ReadJournal(k:Nat)(x0:DDisk):Option (Int×((List DWrite)×Bool)):=
 (c_spec_IsDisk k x0).bind fun y1=>
 (bif (!y1)then some ((0:Int),([]:List DWrite),false)else(bif (decide ((x0.1.length:Int)<(70:Int)))then some ((0:Int),([]:List DWrite),false)else(c_spec_l03Read k (x0,(1:Int))).bind fun y2=>
 (c_spec_GetNumber k (y2,(4:Int),(4:Int))).bind fun y3=>
 (c_spec_GetNumber k (y2,(8:Int),(2:Int))).bind fun y4=>
 (c_spec_l01In k (y4.1,(1:Int),(64:Int))).bind fun y5=>
 (bif (!y5)then some ((0:Int),([]:List DWrite),false)else iter k (spec_ReadJournal_l1 k) ((),y2,y3.1,y4.1,([]:List DWrite),(0:Int),x0))))
theorem spec_ReadJournal_run(k:Nat)(x0:DDisk):c_spec_ReadJournal (k+1) (x0)=spec_ReadJournal k x0:=by kernel_rfl
def spec_l18Super_l1(k:Nat)(self:_→Option ByteArray)(d:(ByteArray×((List DQuota)×DQuota))):=
 (bif (decide (d.2.2.2<d.2.2.1))then(if 0≤d.2.2.2 then(d.2.1[d.2.2.2.toNat]?).bind fun v0=>
 (c_spec_PutNumber k (v0.1,(1:Int))).bind fun v1=>
 (if d.1.size+v1.size≤9223372036854775807 then(c_spec_PutNumber k (v0.2,(1:Int))).bind fun v2=>
 (if(d.1++v1).size+v2.size≤9223372036854775807 then self (((d.1++v1)++v2),d.2.1,d.2.2.1,(wrapK .i64 (d.2.2.2+(1:Int))))else none)else none)else none)else(c_spec_PadTo k (d.1,(32:Int))).bind fun v3=>
 some v3)
def spec_l18Super(k:Nat)(x0:DFS):Option ByteArray:=
 (c_spec_PutNumber k (x0.1,(4:Int))).bind fun y1=>
 (if(⟨#[70,83,89,83]⟩:ByteArray).size+y1.size≤9223372036854775807 then iter k (spec_l18Super_l1 k) (((⟨#[70,83,89,83]⟩:ByteArray)++y1),x0.2.1,(x0.2.1.length:Int),(0:Int))else none)
theorem spec_l18Super_run(k:Nat)(x0:DFS):c_spec_l18Super (k+1) (x0)=spec_l18Super k x0:=by kernel_rfl
def spec_CutAll_l1(k:Nat)(self:_→Option (List ByteArray))(d:(ByteArray×(Int×(List ByteArray)))):=
 (bif (decide (d.2.1<(d.1.size:Int)))then(if 0≤d.2.1 then(if d.2.1≤(d.1.size:Int)then(if(d.2.2.length+([(d.1.extract 0 d.2.1.toNat)]:List ByteArray).length)*16≤capBytes then(if 0≤d.2.1 then(if d.2.1≤(d.1.size:Int)then self ((d.1.extract d.2.1.toNat d.1.size),d.2.1,(d.2.2++([(d.1.extract 0 d.2.1.toNat)]:List ByteArray)))else none)else none)else none)else none)else none)else(bif (!(eqS d.1 (⟨#[]⟩:ByteArray)))then(if(d.2.2.length+([d.1]:List ByteArray).length)*16≤capBytes then some (d.2.2++([d.1]:List ByteArray))else none)else some d.2.2))
def spec_CutAll(k:Nat)(x0:ByteArray)(x1:Int):Option (List ByteArray):=
 (c_spec_l01In k (x1,(1:Int),(1000:Int))).bind fun y1=>
 (bif (!y1)then some ([]:List ByteArray)else iter k (spec_CutAll_l1 k) (x0,x1,([]:List ByteArray)))
theorem spec_CutAll_run(k:Nat)(x0:ByteArray)(x1:Int):c_spec_CutAll (k+1) (x0,x1)=spec_CutAll k x0 x1:=by kernel_rfl
def spec_PackAcl_l1(k:Nat)(self:_→Option ByteArray)(d:(ByteArray×((List DOpen)×DQuota))):=
 (bif (decide (d.2.2.2<d.2.2.1))then(if 0≤d.2.2.2 then(d.2.1[d.2.2.2.toNat]?).bind fun v0=>
 (c_spec_PutNumber k (v0.1,(1:Int))).bind fun v1=>
 (if d.1.size+v1.size≤9223372036854775807 then(c_spec_PutNumber k (v0.2.1,(1:Int))).bind fun v2=>
 (if(d.1++v1).size+v2.size≤9223372036854775807 then(c_spec_PutNumber k (v0.2.2,(1:Int))).bind fun v3=>
 (if((d.1++v1)++v2).size+v3.size≤9223372036854775807 then self ((((d.1++v1)++v2)++v3),d.2.1,d.2.2.1,(wrapK .i64 (d.2.2.2+(1:Int))))else none)else none)else none)else none)else(c_spec_PadTo k (d.1,(19:Int))).bind fun v4=>
 some v4)
def spec_PackAcl(k:Nat)(x0:(List DOpen)):Option ByteArray:=
 (c_spec_IsAcl k x0).bind fun y1=>
 (bif (!y1)then some (⟨#[]⟩:ByteArray)else(c_spec_PutNumber k ((x0.length:Int),(1:Int))).bind fun y2=>
 iter k (spec_PackAcl_l1 k) (y2,x0,(x0.length:Int),(0:Int)))
theorem spec_PackAcl_run(k:Nat)(x0:(List DOpen)):c_spec_PackAcl (k+1) (x0)=spec_PackAcl k x0:=by kernel_rfl
def spec_PackInode_l1(k:Nat)(self:_→Option ByteArray)(d:(Unit×(ByteArray×(Int×DInode)))):=
 let e0:=d.2.2.2.2
 let e1:=e0.2.2.2.2
 (bif (decide (d.2.2.1<(8:Int)))then(bif (decide (d.2.2.1<(e1.2.2.1.length:Int)))then(if 0≤d.2.2.1 then(e1.2.2.1[d.2.2.1.toNat]?).bind fun v0=>
 (c_spec_PutNumber k ((wrapK .i64 (v0+(1:Int))),(2:Int))).bind fun v1=>
 (if d.2.1.size+v1.size≤9223372036854775807 then self ((),(d.2.1++v1),(wrapK .i64 (d.2.2.1+(1:Int))),d.2.2.2)else none)else none)else(c_spec_PutNumber k ((wrapK .i64 ((-1:Int)+(1:Int))),(2:Int))).bind fun v2=>
 (if d.2.1.size+v2.size≤9223372036854775807 then self ((),(d.2.1++v2),(wrapK .i64 (d.2.2.1+(1:Int))),d.2.2.2)else none))else(c_spec_PackAcl k e1.2.2.2.1).bind fun v3=>
 (if d.2.1.size+v3.size≤9223372036854775807 then(c_spec_PackAcl k e1.2.2.2.2).bind fun v4=>
 (if(d.2.1++v3).size+v4.size≤9223372036854775807 then(c_spec_PadTo k (((d.2.1++v3)++v4),(96:Int))).bind fun v5=>
 some v5 else none)else none))
def spec_PackInode(k:Nat)(x0:DInode):Option ByteArray:=
 (c_spec_IsInode k x0).bind fun y1=>
 (bif (!y1)then some (⟨#[]⟩:ByteArray)else(c_spec_PutNumber k (x0.1,(1:Int))).bind fun y2=>
 (c_spec_PutNumber k (x0.2.1,(2:Int))).bind fun y3=>
 (if y2.size+y3.size≤9223372036854775807 then(c_spec_PutNumber k (x0.2.2.1,(1:Int))).bind fun y4=>
 (if(y2++y3).size+y4.size≤9223372036854775807 then(c_spec_PutNumber k (x0.2.2.2.1,(1:Int))).bind fun y5=>
 (if((y2++y3)++y4).size+y5.size≤9223372036854775807 then(c_spec_PutNumber k (x0.2.2.2.2.1,(2:Int))).bind fun y6=>
 (if(((y2++y3)++y4)++y5).size+y6.size≤9223372036854775807 then(c_spec_PutNumber k (x0.2.2.2.2.2.1,(2:Int))).bind fun y7=>
 (if((((y2++y3)++y4)++y5)++y6).size+y7.size≤9223372036854775807 then(c_spec_PutNumber k (x0.2.2.2.2.2.2.1,(4:Int))).bind fun y8=>
 (if(((((y2++y3)++y4)++y5)++y6)++y7).size+y8.size≤9223372036854775807 then iter k (spec_PackInode_l1 k) ((),((((((y2++y3)++y4)++y5)++y6)++y7)++y8),(0:Int),x0)else none)else none)else none)else none)else none)else none))
theorem spec_PackInode_run(k:Nat)(x0:DInode):c_spec_PackInode (k+1) (x0)=spec_PackInode k x0:=by kernel_rfl
def spec_l18Pack_l1(k:Nat)(self:_→Option (List ByteArray))(d:(Unit×((List ByteArray)×((List DInode)×(Int×(Int×DFS)))))):=
 let e0:=d.2.2.2.2
 (bif (decide (e0.1<d.2.2.2.1))then(if 0≤e0.1 then(d.2.2.1[e0.1.toNat]?).bind fun v0=>
 (c_spec_PackInode k v0).bind fun v1=>
 (c_spec_CutAll k (v1,(32:Int))).bind fun v2=>
 (if(d.2.1.length+v2.length)*16≤capBytes then self ((),(d.2.1++v2),d.2.2.1,d.2.2.2.1,(wrapK .i64 (e0.1+(1:Int))),e0.2)else none)else none)else(if(d.2.1.length+e0.2.2.2.2.length)*16≤capBytes then some (d.2.1++e0.2.2.2.2)else none))
def spec_l18Pack_l2(k:Nat)(self:_→Option (List ByteArray))(d:(Unit×((List ByteArray)×DFS))):=
 (bif (decide ((d.2.1.length:Int)<(70:Int)))then(c_spec_PadTo k ((⟨#[]⟩:ByteArray),(32:Int))).bind fun v0=>
 (if(d.2.1.length+([v0]:List ByteArray).length)*16≤capBytes then self ((),(d.2.1++([v0]:List ByteArray)),d.2.2)else none)else iter k (spec_l18Pack_l1 k) ((),d.2.1,d.2.2.2.2.1,(d.2.2.2.2.1.length:Int),(0:Int),d.2.2))
def spec_l18Pack(k:Nat)(x0:DFS):Option (List ByteArray):=
 (c_spec_l18Super k x0).bind fun y1=>
 iter k (spec_l18Pack_l2 k) ((),([y1]:List ByteArray),x0)
theorem spec_l18Pack_run(k:Nat)(x0:DFS):c_spec_l18Pack (k+1) (x0)=spec_l18Pack k x0:=by kernel_rfl
def spec_UnpackAcl_l1(k:Nat)(self:_→Option ((List DOpen)×Bool))(d:(ByteArray×((List DOpen)×Int))):=
 (if 0≤(0:Int)then((d.1[(0:Int).toNat]?.map fun v0=>(v0.toNat:Int))).bind fun v1=>
 (bif (decide (d.2.2<(wrapK .i64 v1)))then(bif (decide (d.2.2<(6:Int)))then(if 0≤(wrapK .i64 ((wrapK .i64 ((3:Int)*d.2.2))+(1:Int)))then((d.1[(wrapK .i64 ((wrapK .i64 ((3:Int)*d.2.2))+(1:Int))).toNat]?.map fun v0=>(v0.toNat:Int))).bind fun v2=>
 (if 0≤(wrapK .i64 ((wrapK .i64 ((3:Int)*d.2.2))+(2:Int)))then((d.1[(wrapK .i64 ((wrapK .i64 ((3:Int)*d.2.2))+(2:Int))).toNat]?.map fun v0=>(v0.toNat:Int))).bind fun v3=>
 (if 0≤(wrapK .i64 ((wrapK .i64 ((3:Int)*d.2.2))+(3:Int)))then((d.1[(wrapK .i64 ((wrapK .i64 ((3:Int)*d.2.2))+(3:Int))).toNat]?.map fun v0=>(v0.toNat:Int))).bind fun v4=>
 (if(d.2.1.length+([((wrapK .i64 v2),(wrapK .i64 v3),(wrapK .i64 v4))]:List DOpen).length)*24≤capBytes then self (d.1,(d.2.1++([((wrapK .i64 v2),(wrapK .i64 v3),(wrapK .i64 v4))]:List DOpen)),(wrapK .i64 (d.2.2+(1:Int))))else none)else none)else none)else none)else(c_spec_PackAcl k d.2.1).bind fun v5=>
 (bif (!(eqS v5 d.1))then some (([]:List DOpen),false)else some (d.2.1,true)))else(c_spec_PackAcl k d.2.1).bind fun v6=>
 (bif (!(eqS v6 d.1))then some (([]:List DOpen),false)else some (d.2.1,true)))else none)
def spec_UnpackAcl(k:Nat)(x0:ByteArray):Option ((List DOpen)×Bool):=
 (bif ((x0.size:Int) != (19:Int))then some (([]:List DOpen),false)else iter k (spec_UnpackAcl_l1 k) (x0,([]:List DOpen),(0:Int)))
theorem spec_UnpackAcl_run(k:Nat)(x0:ByteArray):c_spec_UnpackAcl (k+1) (x0)=spec_UnpackAcl k x0:=by kernel_rfl
def spec_UnpackInode_l1(k:Nat)(self:_→Option (DInode×Bool))(d:(ByteArray×(Unit×(Unit×(Int×(DInode×DInode)))))):=
 let e0:=d.2.2.2.2
 (c_spec_BlocksNeeded k e0.1.2.2.2.2.2.1).bind fun v0=>
 (bif (decide (d.2.2.2.1<v0))then(bif (decide (d.2.2.2.1<(8:Int)))then(c_spec_GetNumber k (d.1,(wrapK .i64 ((13:Int)+(wrapK .i64 ((2:Int)*d.2.2.2.1)))),(2:Int))).bind fun v1=>
 (if(e0.1.2.2.2.2.2.2.2.1.length+([(wrapK .i64 (v1.1-(1:Int)))]:List Int).length)*8≤capBytes then self (d.1,(),(),(wrapK .i64 (d.2.2.2.1+(1:Int))),(e0.1.1,e0.1.2.1,e0.1.2.2.1,e0.1.2.2.2.1,e0.1.2.2.2.2.1,e0.1.2.2.2.2.2.1,e0.1.2.2.2.2.2.2.1,(e0.1.2.2.2.2.2.2.2.1++([(wrapK .i64 (v1.1-(1:Int)))]:List Int)),e0.1.2.2.2.2.2.2.2.2),e0.2)else none)else(if 0≤(48:Int)then(if(48:Int)≤(d.1.size:Int)then(if 0≤(29:Int)then(if(29:Int)≤(((48:Int).toNat:Nat):Int)then(c_spec_UnpackAcl k (d.1.extract ((29:Int).toNat) ((48:Int).toNat))).bind fun v2=>
 (if 0≤(67:Int)then(if(67:Int)≤(d.1.size:Int)then(if 0≤(48:Int)then(if(48:Int)≤(((67:Int).toNat:Nat):Int)then(c_spec_UnpackAcl k (d.1.extract ((48:Int).toNat) ((67:Int).toNat))).bind fun v3=>
 (c_spec_PackInode k (e0.1.1,e0.1.2.1,e0.1.2.2.1,e0.1.2.2.2.1,e0.1.2.2.2.2.1,e0.1.2.2.2.2.2.1,e0.1.2.2.2.2.2.2.1,e0.1.2.2.2.2.2.2.2.1,v2.1,v3.1)).bind fun v4=>
 (bif (eqS v4 (⟨#[]⟩:ByteArray))then some (((0:Int),(0:Int),(0:Int),(0:Int),(0:Int),(0:Int),(0:Int),([]:List Int),([]:List DOpen),([]:List DOpen)),false)else(c_spec_PackInode k (e0.1.1,e0.1.2.1,e0.1.2.2.1,e0.1.2.2.2.1,e0.1.2.2.2.2.1,e0.1.2.2.2.2.2.1,e0.1.2.2.2.2.2.2.1,e0.1.2.2.2.2.2.2.2.1,v2.1,v3.1)).bind fun v5=>
 (bif (!(eqS v5 d.1))then some (((0:Int),(0:Int),(0:Int),(0:Int),(0:Int),(0:Int),(0:Int),([]:List Int),([]:List DOpen),([]:List DOpen)),false)else some ((e0.1.1,e0.1.2.1,e0.1.2.2.1,e0.1.2.2.2.1,e0.1.2.2.2.2.1,e0.1.2.2.2.2.2.1,e0.1.2.2.2.2.2.2.1,e0.1.2.2.2.2.2.2.2.1,v2.1,v3.1),true)))else none)else none)else none)else none)else none)else none)else none)else none))else(if 0≤(48:Int)then(if(48:Int)≤(d.1.size:Int)then(if 0≤(29:Int)then(if(29:Int)≤(((48:Int).toNat:Nat):Int)then(c_spec_UnpackAcl k (d.1.extract ((29:Int).toNat) ((48:Int).toNat))).bind fun v6=>
 (if 0≤(67:Int)then(if(67:Int)≤(d.1.size:Int)then(if 0≤(48:Int)then(if(48:Int)≤(((67:Int).toNat:Nat):Int)then(c_spec_UnpackAcl k (d.1.extract ((48:Int).toNat) ((67:Int).toNat))).bind fun v7=>
 (c_spec_PackInode k (e0.1.1,e0.1.2.1,e0.1.2.2.1,e0.1.2.2.2.1,e0.1.2.2.2.2.1,e0.1.2.2.2.2.2.1,e0.1.2.2.2.2.2.2.1,e0.1.2.2.2.2.2.2.2.1,v6.1,v7.1)).bind fun v8=>
 (bif (eqS v8 (⟨#[]⟩:ByteArray))then some (((0:Int),(0:Int),(0:Int),(0:Int),(0:Int),(0:Int),(0:Int),([]:List Int),([]:List DOpen),([]:List DOpen)),false)else(c_spec_PackInode k (e0.1.1,e0.1.2.1,e0.1.2.2.1,e0.1.2.2.2.1,e0.1.2.2.2.2.1,e0.1.2.2.2.2.2.1,e0.1.2.2.2.2.2.2.1,e0.1.2.2.2.2.2.2.2.1,v6.1,v7.1)).bind fun v9=>
 (bif (!(eqS v9 d.1))then some (((0:Int),(0:Int),(0:Int),(0:Int),(0:Int),(0:Int),(0:Int),([]:List Int),([]:List DOpen),([]:List DOpen)),false)else some ((e0.1.1,e0.1.2.1,e0.1.2.2.1,e0.1.2.2.2.1,e0.1.2.2.2.2.1,e0.1.2.2.2.2.2.1,e0.1.2.2.2.2.2.2.1,e0.1.2.2.2.2.2.2.2.1,v6.1,v7.1),true)))else none)else none)else none)else none)else none)else none)else none)else none))
def spec_UnpackInode(k:Nat)(x0:ByteArray):Option (DInode×Bool):=
 (bif ((x0.size:Int) != (96:Int))then some (((0:Int),(0:Int),(0:Int),(0:Int),(0:Int),(0:Int),(0:Int),([]:List Int),([]:List DOpen),([]:List DOpen)),false)else(c_spec_GetNumber k (x0,(0:Int),(1:Int))).bind fun y1=>
 (c_spec_GetNumber k (x0,(1:Int),(2:Int))).bind fun y2=>
 (c_spec_GetNumber k (x0,(3:Int),(1:Int))).bind fun y3=>
 (c_spec_GetNumber k (x0,(4:Int),(1:Int))).bind fun y4=>
 (c_spec_GetNumber k (x0,(5:Int),(2:Int))).bind fun y5=>
 (c_spec_GetNumber k (x0,(7:Int),(2:Int))).bind fun y6=>
 (c_spec_GetNumber k (x0,(9:Int),(4:Int))).bind fun y7=>
 iter k (spec_UnpackInode_l1 k) (x0,(),(),(0:Int),(y1.1,y2.1,y3.1,y4.1,y5.1,y6.1,y7.1,([]:List Int),([]:List DOpen),([]:List DOpen)),((0:Int),(0:Int),(0:Int),(0:Int),(0:Int),(0:Int),(0:Int),([]:List Int),([]:List DOpen),([]:List DOpen))))
theorem spec_UnpackInode_run(k:Nat)(x0:ByteArray):c_spec_UnpackInode (k+1) (x0)=spec_UnpackInode k x0:=by kernel_rfl
def spec_UnpackFS_l1(k:Nat)(self:_→Option (DFS×Bool))(d:((List ByteArray)×(Unit×(Unit×((List ByteArray)×(Int×(Int×(DFS×DFS)))))))):=
 let e0:=d.2.2.2.2
 (bif (decide (e0.2.1<e0.1))then(if 0≤e0.2.1 then(if e0.2.1<(d.2.2.2.1.length:Int)then(d.2.2.2.1[e0.2.1.toNat]?).bind fun v0=>
 (c_spec_l01In k (e0.2.1,(1:Int),(69:Int))).bind fun v1=>
 (bif (!v1)then(if 0≤e0.2.1 then(d.1[e0.2.1.toNat]?).bind fun v2=>
 (bif (!(eqS v0 v2))then some (((0:Int),([]:List DQuota),([]:List DInode),([]:List ByteArray)),false)else self (d.1,(),(),d.2.2.2.1,e0.1,(wrapK .i64 (e0.2.1+(1:Int))),e0.2.2.1,e0.2.2.2))else none)else self (d.1,(),(),d.2.2.2.1,e0.1,(wrapK .i64 (e0.2.1+(1:Int))),e0.2.2.1,e0.2.2.2))else none)else none)else some (e0.2.2.1,true))
def spec_UnpackFS_l2(k:Nat)(self:_→Option (DFS×Bool))(d:((List ByteArray)×(Unit×(Unit×(Int×(DFS×DFS)))))):=
 let e0:=d.2.2.2.2
 (bif (decide (d.2.2.2.1<(20:Int)))then(if 0≤(wrapK .i64 ((70:Int)+(wrapK .i64 ((3:Int)*d.2.2.2.1))))then(d.1[(wrapK .i64 ((70:Int)+(wrapK .i64 ((3:Int)*d.2.2.2.1)))).toNat]?).bind fun v0=>
 (if 0≤(wrapK .i64 ((wrapK .i64 ((70:Int)+(wrapK .i64 ((3:Int)*d.2.2.2.1))))+(1:Int)))then(d.1[(wrapK .i64 ((wrapK .i64 ((70:Int)+(wrapK .i64 ((3:Int)*d.2.2.2.1))))+(1:Int))).toNat]?).bind fun v1=>
 (if v0.size+v1.size≤9223372036854775807 then(if 0≤(wrapK .i64 ((wrapK .i64 ((70:Int)+(wrapK .i64 ((3:Int)*d.2.2.2.1))))+(2:Int)))then(d.1[(wrapK .i64 ((wrapK .i64 ((70:Int)+(wrapK .i64 ((3:Int)*d.2.2.2.1))))+(2:Int))).toNat]?).bind fun v2=>
 (if(v0++v1).size+v2.size≤9223372036854775807 then(c_spec_UnpackInode k ((v0++v1)++v2)).bind fun v3=>
 (bif (!v3.2)then some (((0:Int),([]:List DQuota),([]:List DInode),([]:List ByteArray)),false)else(if(e0.1.2.2.1.length+([v3.1]:List DInode).length)*128≤capBytes then self (d.1,(),(),(wrapK .i64 (d.2.2.2.1+(1:Int))),(e0.1.1,e0.1.2.1,(e0.1.2.2.1++([v3.1]:List DInode)),e0.1.2.2.2),e0.2)else none))else none)else none)else none)else none)else none)else(if 0≤(130:Int)then(if(130:Int)≤(d.1.length:Int)then(if(e0.1.2.2.2.length+((d.1.take d.1.length).drop ((130:Int).toNat)).length)*16≤capBytes then(c_spec_IsFS k (e0.1.1,e0.1.2.1,e0.1.2.2.1,(e0.1.2.2.2++((d.1.take d.1.length).drop ((130:Int).toNat))))).bind fun v4=>
 (bif (!v4)then some (((0:Int),([]:List DQuota),([]:List DInode),([]:List ByteArray)),false)else(c_spec_l18Pack k (e0.1.1,e0.1.2.1,e0.1.2.2.1,(e0.1.2.2.2++((d.1.take d.1.length).drop ((130:Int).toNat))))).bind fun v5=>
 iter k (spec_UnpackFS_l1 k) (d.1,(),(),v5,(v5.length:Int),(0:Int),(e0.1.1,e0.1.2.1,e0.1.2.2.1,(e0.1.2.2.2++((d.1.take d.1.length).drop ((130:Int).toNat)))),e0.2))else none)else none)else none))
def spec_UnpackFS_l3(k:Nat)(self:_→Option (DFS×Bool))(d:((List ByteArray)×(Unit×(Unit×(Int×(DFS×DFS)))))):=
 let e0:=d.2.2.2.2
 (bif (decide (d.2.2.2.1<(4:Int)))then(if 0≤(0:Int)then(d.1[(0:Int).toNat]?).bind fun v0=>
 (if 0≤(wrapK .i64 ((8:Int)+(wrapK .i64 ((2:Int)*d.2.2.2.1))))then((v0[(wrapK .i64 ((8:Int)+(wrapK .i64 ((2:Int)*d.2.2.2.1)))).toNat]?.map fun v1=>(v1.toNat:Int))).bind fun v2=>
 (if 0≤(0:Int)then(d.1[(0:Int).toNat]?).bind fun v3=>
 (if 0≤(wrapK .i64 ((9:Int)+(wrapK .i64 ((2:Int)*d.2.2.2.1))))then((v3[(wrapK .i64 ((9:Int)+(wrapK .i64 ((2:Int)*d.2.2.2.1)))).toNat]?.map fun v1=>(v1.toNat:Int))).bind fun v4=>
 (if(e0.1.2.1.length+([((wrapK .i64 v2),(wrapK .i64 v4))]:List DQuota).length)*16≤capBytes then self (d.1,(),(),(wrapK .i64 (d.2.2.2.1+(1:Int))),(e0.1.1,(e0.1.2.1++([((wrapK .i64 v2),(wrapK .i64 v4))]:List DQuota)),e0.1.2.2),e0.2)else none)else none)else none)else none)else none)else iter k (spec_UnpackFS_l2 k) (d.1,(),(),(0:Int),e0.1,e0.2))
def spec_UnpackFS(k:Nat)(x0:(List ByteArray)):Option (DFS×Bool):=
 (bif ((x0.length:Int) != (186:Int))then some (((0:Int),([]:List DQuota),([]:List DInode),([]:List ByteArray)),false)else(if 0≤(0:Int)then(x0[(0:Int).toNat]?).bind fun y1=>
 (bif ((y1.size:Int) != (32:Int))then some (((0:Int),([]:List DQuota),([]:List DInode),([]:List ByteArray)),false)else(if 0≤(0:Int)then(x0[(0:Int).toNat]?).bind fun y2=>
 (c_spec_GetNumber k (y2,(4:Int),(4:Int))).bind fun y3=>
 iter k (spec_UnpackFS_l3 k) (x0,(),(),(0:Int),(y3.1,([]:List DQuota),([]:List DInode),([]:List ByteArray)),((0:Int),([]:List DQuota),([]:List DInode),([]:List ByteArray)))else none))else none))
theorem spec_UnpackFS_run(k:Nat)(x0:(List ByteArray)):c_spec_UnpackFS (k+1) (x0)=spec_UnpackFS k x0:=by kernel_rfl
def spec_l18Sectors_l1(k:Nat)(self:_→Option (List ByteArray))(d:((List ByteArray)×((List DWrite)×DQuota))):=
 (bif (decide (d.2.2.2<d.2.2.1))then(if 0≤d.2.2.2 then(d.2.1[d.2.2.2.toNat]?).bind fun v0=>
 (if 0≤v0.1 then(if v0.1<(d.1.length:Int)then(d.1[v0.1.toNat]?).bind fun v1=>
 self ((d.1.set v0.1.toNat v0.2),d.2.1,d.2.2.1,(wrapK .i64 (d.2.2.2+(1:Int))))else none)else none)else none)else some d.1)
def spec_l18Sectors(k:Nat)(x0:DDisk):Option (List ByteArray):=
 (if(([]:List ByteArray).length+x0.1.length)*16≤capBytes then iter k (spec_l18Sectors_l1 k) ((([]:List ByteArray)++x0.1),x0.2,(x0.2.length:Int),(0:Int))else none)
theorem spec_l18Sectors_run(k:Nat)(x0:DDisk):c_spec_l18Sectors (k+1) (x0)=spec_l18Sectors k x0:=by kernel_rfl
def spec_LoadFS(k:Nat)(x0:DDisk):Option (DFS×Bool):=
 (c_spec_IsDisk k x0).bind fun y1=>
 (bif (!y1)then some (((0:Int),([]:List DQuota),([]:List DInode),([]:List ByteArray)),false)else(bif ((x0.1.length:Int) != (186:Int))then some (((0:Int),([]:List DQuota),([]:List DInode),([]:List ByteArray)),false)else(c_spec_l18Sectors k x0).bind fun y2=>
 (c_spec_UnpackFS k y2).bind fun y3=>
 some (y3.1,y3.2)))
theorem spec_LoadFS_run(k:Nat)(x0:DDisk):c_spec_LoadFS (k+1) (x0)=spec_LoadFS k x0:=by kernel_rfl
def spec_l02Texts_l1(k:Nat)(self:_→Option Bool)(d:((List ByteArray)×((List ByteArray)×DQuota))):=
 (bif (decide (d.2.2.2<d.2.2.1))then(if 0≤d.2.2.2 then(d.2.1[d.2.2.2.toNat]?).bind fun v0=>
 (if 0≤d.2.2.2 then(d.1[d.2.2.2.toNat]?).bind fun v1=>
 (bif (!(eqS v0 v1))then some false else self (d.1,d.2.1,d.2.2.1,(wrapK .i64 (d.2.2.2+(1:Int)))))else none)else none)else some true)
def spec_l02Texts(k:Nat)(x0:(List ByteArray))(x1:(List ByteArray)):Option Bool:=
 (bif ((x0.length:Int) != (x1.length:Int))then some false else iter k (spec_l02Texts_l1 k) (x1,x0,(x0.length:Int),(0:Int)))
theorem spec_l02Texts_run(k:Nat)(x0:(List ByteArray))(x1:(List ByteArray)):c_spec_l02Texts (k+1) (x0,x1)=spec_l02Texts k x0 x1:=by kernel_rfl
def spec_SameFS_l1(k:Nat)(self:_→Option Bool)(d:(Unit×((List DInode)×(Int×(Int×DFS))))):=
 (bif (decide (d.2.2.2.1<d.2.2.1))then(if 0≤d.2.2.2.1 then(d.2.1[d.2.2.2.1.toNat]?).bind fun v0=>
 (if 0≤d.2.2.2.1 then(d.2.2.2.2.2.2.1[d.2.2.2.1.toNat]?).bind fun v1=>
 (c_spec_SameInode k (v0,v1)).bind fun v2=>
 (bif (!v2)then some false else self ((),d.2.1,d.2.2.1,(wrapK .i64 (d.2.2.2.1+(1:Int))),d.2.2.2.2))else none)else none)else some true)
def spec_SameFS_l2(k:Nat)(self:_→Option Bool)(d:(Unit×(Unit×((List DQuota)×(Int×(Int×(DFS×DFS))))))):=
 let e0:=d.2.2.2.2
 (bif (decide (e0.1<d.2.2.2.1))then(if 0≤e0.1 then(d.2.2.1[e0.1.toNat]?).bind fun v0=>
 (if 0≤e0.1 then(e0.2.1.2.1[e0.1.toNat]?).bind fun v1=>
 (bif (!((v0.1==v1.1)&&(v0.2==v1.2)))then some false else self ((),(),d.2.2.1,d.2.2.2.1,(wrapK .i64 (e0.1+(1:Int))),e0.2.1,e0.2.2))else none)else none)else iter k (spec_SameFS_l1 k) ((),e0.2.2.2.2.1,(e0.2.2.2.2.1.length:Int),(0:Int),e0.2.1))
def spec_SameFS(k:Nat)(x0:DFS)(x1:DFS):Option Bool:=
 (bif (x0.1 != x1.1)then some false else(bif ((x0.2.1.length:Int) != (x1.2.1.length:Int))then some false else(bif ((x0.2.2.1.length:Int) != (x1.2.2.1.length:Int))then some false else(c_spec_l02Texts k (x0.2.2.2,x1.2.2.2)).bind fun y1=>
 (bif (!y1)then some false else iter k (spec_SameFS_l2 k) ((),(),x0.2.1,(x0.2.1.length:Int),(0:Int),x1,x0)))))
theorem spec_SameFS_run(k:Nat)(x0:DFS)(x1:DFS):c_spec_SameFS (k+1) (x0,x1)=spec_SameFS k x0 x1:=by kernel_rfl
def spec_IsMachine(k:Nat)(x0:DMachine):Option Bool:=
 (c_spec_IsSystem k x0.2.2).bind fun y1=>
 (bif (!y1)then some false else(c_spec_l01In k (x0.2.1,(0:Int),(1000000000:Int))).bind fun y2=>
 (bif (!y2)then some false else(c_spec_IsDisk k x0.1).bind fun y3=>
 (bif (!y3)then some false else(bif (decide ((0:Int)<(x0.1.2.length:Int)))then some false else(c_spec_ReadJournal k x0.1).bind fun y4=>
 (c_spec_LoadFS k x0.1).bind fun y5=>
 (bif (!y4.2.2)then(bif y5.2 then(c_spec_SameFS k (y5.1,x0.2.2.1)).bind fun y6=>
 some y6 else some false)else some false)))))
theorem spec_IsMachine_run(k:Nat)(x0:DMachine):c_spec_IsMachine (k+1) (x0)=spec_IsMachine k x0:=by kernel_rfl
def laws_toStringS_l1(k:Nat)(self:_→Option (List ByteArray))(d:((List ByteArray)×((List ByteArray)×Int))):=
 (bif (decide (d.2.2<(d.1.length:Int)))then(if 0≤d.2.2 then(d.1[d.2.2.toNat]?).bind fun v0=>
 (if 0≤d.2.2 then(if d.2.2<(d.2.1.length:Int)then(d.2.1[d.2.2.toNat]?).bind fun v1=>
 self (d.1,(d.2.1.set d.2.2.toNat v0),(wrapK .i64 (d.2.2+(1:Int))))else none)else none)else none)else some d.2.1)
def laws_toStringS(k:Nat)(x0:(List ByteArray)):Option (List ByteArray):=
 (if 0≤(x0.length:Int)then(if(x0.length:Int)≤(x0.length:Int)then(if(x0.length:Int)*16≤(capBytes:Int)then iter k (laws_toStringS_l1 k) (x0,(List.replicate (x0.length:Int).toNat ByteArray.empty),(0:Int))else none)else none)else none)
theorem laws_toStringS_run(k:Nat)(x0:(List ByteArray)):c_laws_toStringS (k+1) (x0)=laws_toStringS k x0:=by kernel_rfl
def laws_toWrite(k:Nat)(x0:DWrite):Option DWrite:=
 some (x0.1,x0.2)
theorem laws_toWrite_run(k:Nat)(x0:DWrite):c_laws_toWrite (k+1) (x0)=laws_toWrite k x0:=by kernel_rfl
def laws_toWriteS_l1(k:Nat)(self:_→Option (List DWrite))(d:((List DWrite)×((List DWrite)×Int))):=
 (bif (decide (d.2.2<(d.1.length:Int)))then(if 0≤d.2.2 then(d.1[d.2.2.toNat]?).bind fun v0=>
 (c_laws_toWrite k v0).bind fun v1=>
 (if 0≤d.2.2 then(if d.2.2<(d.2.1.length:Int)then(d.2.1[d.2.2.toNat]?).bind fun v2=>
 self (d.1,(d.2.1.set d.2.2.toNat v1),(wrapK .i64 (d.2.2+(1:Int))))else none)else none)else none)else some d.2.1)
def laws_toWriteS(k:Nat)(x0:(List DWrite)):Option (List DWrite):=
 (if 0≤(x0.length:Int)then(if(x0.length:Int)≤(x0.length:Int)then(if(x0.length:Int)*24≤(capBytes:Int)then iter k (laws_toWriteS_l1 k) (x0,(List.replicate (x0.length:Int).toNat ((0:Int),ByteArray.empty)),(0:Int))else none)else none)else none)
theorem laws_toWriteS_run(k:Nat)(x0:(List DWrite)):c_laws_toWriteS (k+1) (x0)=laws_toWriteS k x0:=by kernel_rfl
def laws_toDisk(k:Nat)(x0:DDisk):Option DDisk:=
 (c_laws_toStringS k x0.1).bind fun y1=>
 (c_laws_toWriteS k x0.2).bind fun y2=>
 some (y1,y2)
theorem laws_toDisk_run(k:Nat)(x0:DDisk):c_laws_toDisk (k+1) (x0)=laws_toDisk k x0:=by kernel_rfl
def laws_toQuota(k:Nat)(x0:DQuota):Option DQuota:=
 some (x0.1,x0.2)
theorem laws_toQuota_run(k:Nat)(x0:DQuota):c_laws_toQuota (k+1) (x0)=laws_toQuota k x0:=by kernel_rfl
def laws_toQuotaS_l1(k:Nat)(self:_→Option (List DQuota))(d:((List DQuota)×((List DQuota)×Int))):=
 (bif (decide (d.2.2<(d.1.length:Int)))then(if 0≤d.2.2 then(d.1[d.2.2.toNat]?).bind fun v0=>
 (c_laws_toQuota k v0).bind fun v1=>
 (if 0≤d.2.2 then(if d.2.2<(d.2.1.length:Int)then(d.2.1[d.2.2.toNat]?).bind fun v2=>
 self (d.1,(d.2.1.set d.2.2.toNat v1),(wrapK .i64 (d.2.2+(1:Int))))else none)else none)else none)else some d.2.1)
def laws_toQuotaS(k:Nat)(x0:(List DQuota)):Option (List DQuota):=
 (if 0≤(x0.length:Int)then(if(x0.length:Int)≤(x0.length:Int)then(if(x0.length:Int)*16≤(capBytes:Int)then iter k (laws_toQuotaS_l1 k) (x0,(List.replicate (x0.length:Int).toNat ((0:Int),(0:Int))),(0:Int))else none)else none)else none)
theorem laws_toQuotaS_run(k:Nat)(x0:(List DQuota)):c_laws_toQuotaS (k+1) (x0)=laws_toQuotaS k x0:=by kernel_rfl
def laws_toIntS_l1(k:Nat)(self:_→Option (List Int))(d:((List Int)×((List Int)×Int))):=
 (bif (decide (d.2.2<(d.1.length:Int)))then(if 0≤d.2.2 then(d.1[d.2.2.toNat]?).bind fun v0=>
 (if 0≤d.2.2 then(if d.2.2<(d.2.1.length:Int)then(d.2.1[d.2.2.toNat]?).bind fun v1=>
 self (d.1,(d.2.1.set d.2.2.toNat v0),(wrapK .i64 (d.2.2+(1:Int))))else none)else none)else none)else some d.2.1)
def laws_toIntS(k:Nat)(x0:(List Int)):Option (List Int):=
 (if 0≤(x0.length:Int)then(if(x0.length:Int)≤(x0.length:Int)then(if(x0.length:Int)*8≤(capBytes:Int)then iter k (laws_toIntS_l1 k) (x0,(List.replicate (x0.length:Int).toNat (0:Int)),(0:Int))else none)else none)else none)
theorem laws_toIntS_run(k:Nat)(x0:(List Int)):c_laws_toIntS (k+1) (x0)=laws_toIntS k x0:=by kernel_rfl
def laws_toAclEntry(k:Nat)(x0:DOpen):Option DOpen:=
 some (x0.1,x0.2.1,x0.2.2)
theorem laws_toAclEntry_run(k:Nat)(x0:DOpen):c_laws_toAclEntry (k+1) (x0)=laws_toAclEntry k x0:=by kernel_rfl
def laws_toAclEntryS_l1(k:Nat)(self:_→Option (List DOpen))(d:((List DOpen)×((List DOpen)×Int))):=
 (bif (decide (d.2.2<(d.1.length:Int)))then(if 0≤d.2.2 then(d.1[d.2.2.toNat]?).bind fun v0=>
 (c_laws_toAclEntry k v0).bind fun v1=>
 (if 0≤d.2.2 then(if d.2.2<(d.2.1.length:Int)then(d.2.1[d.2.2.toNat]?).bind fun v2=>
 self (d.1,(d.2.1.set d.2.2.toNat v1),(wrapK .i64 (d.2.2+(1:Int))))else none)else none)else none)else some d.2.1)
def laws_toAclEntryS(k:Nat)(x0:(List DOpen)):Option (List DOpen):=
 (if 0≤(x0.length:Int)then(if(x0.length:Int)≤(x0.length:Int)then(if(x0.length:Int)*24≤(capBytes:Int)then iter k (laws_toAclEntryS_l1 k) (x0,(List.replicate (x0.length:Int).toNat ((0:Int),(0:Int),(0:Int))),(0:Int))else none)else none)else none)
theorem laws_toAclEntryS_run(k:Nat)(x0:(List DOpen)):c_laws_toAclEntryS (k+1) (x0)=laws_toAclEntryS k x0:=by kernel_rfl
def laws_toInode(k:Nat)(x0:DInode):Option DInode:=
 (c_laws_toIntS k x0.2.2.2.2.2.2.2.1).bind fun y1=>
 (c_laws_toAclEntryS k x0.2.2.2.2.2.2.2.2.1).bind fun y2=>
 (c_laws_toAclEntryS k x0.2.2.2.2.2.2.2.2.2).bind fun y3=>
 some (x0.1,x0.2.1,x0.2.2.1,x0.2.2.2.1,x0.2.2.2.2.1,x0.2.2.2.2.2.1,x0.2.2.2.2.2.2.1,y1,y2,y3)
theorem laws_toInode_run(k:Nat)(x0:DInode):c_laws_toInode (k+1) (x0)=laws_toInode k x0:=by kernel_rfl
def laws_toInodeS_l1(k:Nat)(self:_→Option (List DInode))(d:((List DInode)×((List DInode)×Int))):=
 (bif (decide (d.2.2<(d.1.length:Int)))then(if 0≤d.2.2 then(d.1[d.2.2.toNat]?).bind fun v0=>
 (c_laws_toInode k v0).bind fun v1=>
 (if 0≤d.2.2 then(if d.2.2<(d.2.1.length:Int)then(d.2.1[d.2.2.toNat]?).bind fun v2=>
 self (d.1,(d.2.1.set d.2.2.toNat v1),(wrapK .i64 (d.2.2+(1:Int))))else none)else none)else none)else some d.2.1)
def laws_toInodeS(k:Nat)(x0:(List DInode)):Option (List DInode):=
 (if 0≤(x0.length:Int)then(if(x0.length:Int)≤(x0.length:Int)then(if(x0.length:Int)*128≤(capBytes:Int)then iter k (laws_toInodeS_l1 k) (x0,(List.replicate (x0.length:Int).toNat ((0:Int),(0:Int),(0:Int),(0:Int),(0:Int),(0:Int),(0:Int),([]:List Int),([]:List DOpen),([]:List DOpen))),(0:Int))else none)else none)else none)
theorem laws_toInodeS_run(k:Nat)(x0:(List DInode)):c_laws_toInodeS (k+1) (x0)=laws_toInodeS k x0:=by kernel_rfl
def laws_toFS(k:Nat)(x0:DFS):Option DFS:=
 (c_laws_toQuotaS k x0.2.1).bind fun y1=>
 (c_laws_toInodeS k x0.2.2.1).bind fun y2=>
 (c_laws_toStringS k x0.2.2.2).bind fun y3=>
 some (x0.1,y1,y2,y3)
theorem laws_toFS_run(k:Nat)(x0:DFS):c_laws_toFS (k+1) (x0)=laws_toFS k x0:=by kernel_rfl
def laws_toCred(k:Nat)(x0:DCred):Option DCred:=
 (c_laws_toIntS k x0.2.2).bind fun y1=>
 some (x0.1,x0.2.1,y1)
theorem laws_toCred_run(k:Nat)(x0:DCred):c_laws_toCred (k+1) (x0)=laws_toCred k x0:=by kernel_rfl
def laws_toOpen(k:Nat)(x0:DOpen):Option DOpen:=
 some (x0.1,x0.2.1,x0.2.2)
theorem laws_toOpen_run(k:Nat)(x0:DOpen):c_laws_toOpen (k+1) (x0)=laws_toOpen k x0:=by kernel_rfl
def laws_toOpenS_l1(k:Nat)(self:_→Option (List DOpen))(d:((List DOpen)×((List DOpen)×Int))):=
 (bif (decide (d.2.2<(d.1.length:Int)))then(if 0≤d.2.2 then(d.1[d.2.2.toNat]?).bind fun v0=>
 (c_laws_toOpen k v0).bind fun v1=>
 (if 0≤d.2.2 then(if d.2.2<(d.2.1.length:Int)then(d.2.1[d.2.2.toNat]?).bind fun v2=>
 self (d.1,(d.2.1.set d.2.2.toNat v1),(wrapK .i64 (d.2.2+(1:Int))))else none)else none)else none)else some d.2.1)
def laws_toOpenS(k:Nat)(x0:(List DOpen)):Option (List DOpen):=
 (if 0≤(x0.length:Int)then(if(x0.length:Int)≤(x0.length:Int)then(if(x0.length:Int)*24≤(capBytes:Int)then iter k (laws_toOpenS_l1 k) (x0,(List.replicate (x0.length:Int).toNat ((0:Int),(0:Int),(0:Int))),(0:Int))else none)else none)else none)
theorem laws_toOpenS_run(k:Nat)(x0:(List DOpen)):c_laws_toOpenS (k+1) (x0)=laws_toOpenS k x0:=by kernel_rfl
def laws_toProc(k:Nat)(x0:DProc):Option DProc:=
 (c_laws_toCred k x0.1).bind fun y1=>
 (c_laws_toOpenS k x0.2).bind fun y2=>
 some (y1,y2)
theorem laws_toProc_run(k:Nat)(x0:DProc):c_laws_toProc (k+1) (x0)=laws_toProc k x0:=by kernel_rfl
def laws_toProcS_l1(k:Nat)(self:_→Option (List DProc))(d:((List DProc)×((List DProc)×Int))):=
 (bif (decide (d.2.2<(d.1.length:Int)))then(if 0≤d.2.2 then(d.1[d.2.2.toNat]?).bind fun v0=>
 (c_laws_toProc k v0).bind fun v1=>
 (if 0≤d.2.2 then(if d.2.2<(d.2.1.length:Int)then(d.2.1[d.2.2.toNat]?).bind fun v2=>
 self (d.1,(d.2.1.set d.2.2.toNat v1),(wrapK .i64 (d.2.2+(1:Int))))else none)else none)else none)else some d.2.1)
def laws_toProcS(k:Nat)(x0:(List DProc)):Option (List DProc):=
 (if 0≤(x0.length:Int)then(if(x0.length:Int)≤(x0.length:Int)then(if(x0.length:Int)*64≤(capBytes:Int)then iter k (laws_toProcS_l1 k) (x0,(List.replicate (x0.length:Int).toNat (((0:Int),(0:Int),([]:List Int)),([]:List DOpen))),(0:Int))else none)else none)else none)
theorem laws_toProcS_run(k:Nat)(x0:(List DProc)):c_laws_toProcS (k+1) (x0)=laws_toProcS k x0:=by kernel_rfl
def laws_toSystem(k:Nat)(x0:DSystem):Option DSystem:=
 (c_laws_toFS k x0.1).bind fun y1=>
 (c_laws_toProcS k x0.2).bind fun y2=>
 some (y1,y2)
theorem laws_toSystem_run(k:Nat)(x0:DSystem):c_laws_toSystem (k+1) (x0)=laws_toSystem k x0:=by kernel_rfl
def laws_toMachine(k:Nat)(x0:DMachine):Option DMachine:=
 (c_laws_toDisk k x0.1).bind fun y1=>
 (c_laws_toSystem k x0.2.2).bind fun y2=>
 some (y1,x0.2.1,y2)
theorem laws_toMachine_run(k:Nat)(x0:DMachine):c_laws_toMachine (k+1) (x0)=laws_toMachine k x0:=by kernel_rfl
def slices_Equal_int_int_l1(k:Nat)(self:_→Option Bool)(d:((List Int)×((List Int)×DQuota))):=
 (bif (decide (d.2.2.2<d.2.2.1))then(if 0≤d.2.2.2 then(d.1[d.2.2.2.toNat]?).bind fun v0=>
 (if 0≤d.2.2.2 then(d.2.1[d.2.2.2.toNat]?).bind fun v1=>
 (bif (v0 != v1)then some false else self (d.1,d.2.1,d.2.2.1,(wrapK .i64 (d.2.2.2+(1:Int)))))else none)else none)else some true)
def slices_Equal_int_int(k:Nat)(x0:(List Int))(x1:(List Int)):Option Bool:=
 (bif ((x0.length:Int) != (x1.length:Int))then some false else iter k (slices_Equal_int_int_l1 k) (x0,x1,(x0.length:Int),(0:Int)))
theorem slices_Equal_int_int_run(k:Nat)(x0:(List Int))(x1:(List Int)):c_slices_Equal_int_int (k+1) (x0,x1)=slices_Equal_int_int k x0 x1:=by kernel_rfl
def slices_Equal_impl_AclEntry_impl_AclEntry_l1(k:Nat)(self:_→Option Bool)(d:((List DOpen)×((List DOpen)×DQuota))):=
 (bif (decide (d.2.2.2<d.2.2.1))then(if 0≤d.2.2.2 then(d.1[d.2.2.2.toNat]?).bind fun v0=>
 (if 0≤d.2.2.2 then(d.2.1[d.2.2.2.toNat]?).bind fun v1=>
 (bif (!((v0.1==v1.1)&&((v0.2.1==v1.2.1)&&(v0.2.2==v1.2.2))))then some false else self (d.1,d.2.1,d.2.2.1,(wrapK .i64 (d.2.2.2+(1:Int)))))else none)else none)else some true)
def slices_Equal_impl_AclEntry_impl_AclEntry(k:Nat)(x0:(List DOpen))(x1:(List DOpen)):Option Bool:=
 (bif ((x0.length:Int) != (x1.length:Int))then some false else iter k (slices_Equal_impl_AclEntry_impl_AclEntry_l1 k) (x0,x1,(x0.length:Int),(0:Int)))
theorem slices_Equal_impl_AclEntry_impl_AclEntry_run(k:Nat)(x0:(List DOpen))(x1:(List DOpen)):c_slices_Equal_impl_AclEntry_impl_AclEntry (k+1) (x0,x1)=slices_Equal_impl_AclEntry_impl_AclEntry k x0 x1:=by kernel_rfl
def impl_SameInode(k:Nat)(x0:DInode)(x1:DInode):Option Bool:=
 (bif (x0.1==x1.1)then(bif (x0.2.1==x1.2.1)then(bif (x0.2.2.1==x1.2.2.1)then(bif (x0.2.2.2.1==x1.2.2.2.1)then(bif (x0.2.2.2.2.1==x1.2.2.2.2.1)then(bif (x0.2.2.2.2.2.1==x1.2.2.2.2.2.1)then(bif (x0.2.2.2.2.2.2.1==x1.2.2.2.2.2.2.1)then(c_slices_Equal_int_int k (x0.2.2.2.2.2.2.2.1,x1.2.2.2.2.2.2.2.1)).bind fun y1=>
 (bif y1 then(c_slices_Equal_impl_AclEntry_impl_AclEntry k (x0.2.2.2.2.2.2.2.2.1,x1.2.2.2.2.2.2.2.2.1)).bind fun y2=>
 (bif y2 then(c_slices_Equal_impl_AclEntry_impl_AclEntry k (x0.2.2.2.2.2.2.2.2.2,x1.2.2.2.2.2.2.2.2.2)).bind fun y3=>
 some y3 else some false)else some false)else some false)else some false)else some false)else some false)else some false)else some false)else some false)
theorem impl_SameInode_run(k:Nat)(x0:DInode)(x1:DInode):c_impl_SameInode (k+1) (x0,x1)=impl_SameInode k x0 x1:=by kernel_rfl
def slices_Index_int_int_l1(k:Nat)(self:_→Option Int)(d:((List Int)×DOpen)):=
 (bif (decide (d.2.2.2<d.2.2.1))then(if 0≤d.2.2.2 then(d.1[d.2.2.2.toNat]?).bind fun v0=>
 (bif (d.2.1==v0)then some d.2.2.2 else self (d.1,d.2.1,d.2.2.1,(wrapK .i64 (d.2.2.2+(1:Int)))))else none)else some (-1:Int))
def slices_Index_int_int(k:Nat)(x0:(List Int))(x1:Int):Option Int:=
 iter k (slices_Index_int_int_l1 k) (x0,x1,(x0.length:Int),(0:Int))
theorem slices_Index_int_int_run(k:Nat)(x0:(List Int))(x1:Int):c_slices_Index_int_int (k+1) (x0,x1)=slices_Index_int_int k x0 x1:=by kernel_rfl
def slices_Contains_int_int(k:Nat)(x0:(List Int))(x1:Int):Option Bool:=
 (c_slices_Index_int_int k (x0,x1)).bind fun y1=>
 some (decide ((0:Int)≤y1))
theorem slices_Contains_int_int_run(k:Nat)(x0:(List Int))(x1:Int):c_slices_Contains_int_int (k+1) (x0,x1)=slices_Contains_int_int k x0 x1:=by kernel_rfl
def impl_isUser(k:Nat)(x0:Int):Option Bool:=
 (bif (decide ((0:Int)≤x0))then some (decide (x0<(4:Int)))else some false)
theorem impl_isUser_run(k:Nat)(x0:Int):c_impl_isUser (k+1) (x0)=impl_isUser k x0:=by kernel_rfl
def impl_isMode(k:Nat)(x0:Int):Option Bool:=
 (bif (decide ((0:Int)≤x0))then some (decide (x0≤(2047:Int)))else some false)
theorem impl_isMode_run(k:Nat)(x0:Int):c_impl_isMode (k+1) (x0)=impl_isMode k x0:=by kernel_rfl
def impl_BlocksNeeded(k:Nat)(x0:Int):Option Int:=
 (bif (decide (x0≤(0:Int)))then some (0:Int)else(if((32:Int):Int)≠0 then some (wrapK .i64 ((wrapK .i64 ((wrapK .i64 (x0-(1:Int))).tdiv (32:Int)))+(1:Int)))else none))
theorem impl_BlocksNeeded_run(k:Nat)(x0:Int):c_impl_BlocksNeeded (k+1) (x0)=impl_BlocksNeeded k x0:=by kernel_rfl
def cmp_Or_int_l1(k:Nat)(self:_→Option Int)(d:(Int×((List Int)×DQuota))):=
 (bif (decide (d.2.2.2<d.2.2.1))then(if 0≤d.2.2.2 then(d.2.1[d.2.2.2.toNat]?).bind fun v0=>
 (bif (v0 != d.1)then some v0 else self (d.1,d.2.1,d.2.2.1,(wrapK .i64 (d.2.2.2+(1:Int)))))else none)else some d.1)
def cmp_Or_int(k:Nat)(x0:(List Int)):Option Int:=
 iter k (cmp_Or_int_l1 k) ((0:Int),x0,(x0.length:Int),(0:Int))
theorem cmp_Or_int_run(k:Nat)(x0:(List Int)):c_cmp_Or_int (k+1) (x0)=cmp_Or_int k x0:=by kernel_rfl
def cmp_isNaN_int(k:Nat)(x0:Int):Option Bool:=
 some (x0 != x0)
theorem cmp_isNaN_int_run(k:Nat)(x0:Int):c_cmp_isNaN_int (k+1) (x0)=cmp_isNaN_int k x0:=by kernel_rfl
def cmp_Compare_int(k:Nat)(x0:Int)(x1:Int):Option Int:=
 (c_cmp_isNaN_int k x0).bind fun y1=>
 (c_cmp_isNaN_int k x1).bind fun y2=>
 (bif y1 then(bif y2 then some (0:Int)else some (-1:Int))else(bif y2 then some (1:Int)else(bif (decide (x0<x1))then some (-1:Int)else(bif (decide (x1<x0))then some (1:Int)else some (0:Int)))))
theorem cmp_Compare_int_run(k:Nat)(x0:Int)(x1:Int):c_cmp_Compare_int (k+1) (x0,x1)=cmp_Compare_int k x0 x1:=by kernel_rfl
def impl_IsAcl_l1(k:Nat)(self:_→Option Bool)(d:((List DOpen)×((List DOpen)×DQuota))):=
 (bif (decide (d.2.2.2<d.2.2.1))then(if 0≤d.2.2.2 then(d.2.1[d.2.2.2.toNat]?).bind fun v0=>
 (bif (decide (v0.2.2<(0:Int)))then some false else(bif (decide ((7:Int)<v0.2.2))then some false else(joinK (R:=Bool) ((bif (v0.1==(1:Int))then(bif (v0.1==(1:Int))then(c_impl_isUser k v0.2.1).bind fun v1=>
 (bif (!v1)then((some false).map .inr)else some (.inl (d.1,d.2.2.2,(),d.2.1,d.2.2.1,d.2.2.2,v0)))else(bif (v0.1==(3:Int))then(bif (v0.2.1 != (0:Int))then((some false).map .inr)else some (.inl (d.1,d.2.2.2,(),d.2.1,d.2.2.1,d.2.2.2,v0)))else((some false).map .inr)))else(bif (v0.1==(2:Int))then(c_impl_isUser k v0.2.1).bind fun v2=>
 (bif (!v2)then((some false).map .inr)else some (.inl (d.1,d.2.2.2,(),d.2.1,d.2.2.1,d.2.2.2,v0)))else(bif (v0.1==(3:Int))then(bif (v0.2.1 != (0:Int))then((some false).map .inr)else some (.inl (d.1,d.2.2.2,(),d.2.1,d.2.2.1,d.2.2.2,v0)))else((some false).map .inr))))) fun(v3:((List DOpen)×(Int×(Unit×((List DOpen)×(Int×(Int×DOpen)))))))=>let e0:=v3.2.2.2.2;(bif (decide ((0:Int)<v3.2.1))then(if 0≤(wrapK .i64 (v3.2.1-(1:Int)))then(v3.1[(wrapK .i64 (v3.2.1-(1:Int))).toNat]?).bind fun v4=>
 (c_cmp_Compare_int k (v4.1,e0.2.2.1)).bind fun v5=>
 (if 0≤(wrapK .i64 (v3.2.1-(1:Int)))then(v3.1[(wrapK .i64 (v3.2.1-(1:Int))).toNat]?).bind fun v6=>
 (c_cmp_Compare_int k (v6.2.1,e0.2.2.2.1)).bind fun v7=>
 (c_cmp_Or_int k ([v5,v7]:List Int)).bind fun v8=>
 (bif (decide ((0:Int)≤v8))then some false else self (v3.1,v3.2.2.2.1,e0.1,(wrapK .i64 (e0.2.1+(1:Int)))))else none)else none)else self (v3.1,v3.2.2.2.1,e0.1,(wrapK .i64 (e0.2.1+(1:Int))))))))else none)else(bif ((d.1.length:Int)==(0:Int))then some true else(if 0≤(wrapK .i64 ((d.1.length:Int)-(1:Int)))then(d.1[(wrapK .i64 ((d.1.length:Int)-(1:Int))).toNat]?).bind fun v9=>
 some (v9.1==(3:Int))else none)))
def impl_IsAcl(k:Nat)(x0:(List DOpen)):Option Bool:=
 (bif (decide ((6:Int)<(x0.length:Int)))then some false else iter k (impl_IsAcl_l1 k) (x0,x0,(x0.length:Int),(0:Int)))
theorem impl_IsAcl_run(k:Nat)(x0:(List DOpen)):c_impl_IsAcl (k+1) (x0)=impl_IsAcl k x0:=by kernel_rfl
def impl_IsInode_l1(k:Nat)(self:_→Option Bool)(d:(Unit×((List Int)×(Int×(Int×DInode))))):=
 let e0:=d.2.2.2.2
 (bif (decide (d.2.2.2.1<d.2.2.1))then(if 0≤d.2.2.2.1 then(d.2.1[d.2.2.2.1.toNat]?).bind fun v0=>
 (bif (v0 != (-1:Int))then(bif (decide (v0<(0:Int)))then some false else(bif (decide ((999:Int)<v0))then some false else(if 0≤d.2.2.2.1 then(if d.2.2.2.1≤(e0.2.2.2.2.2.2.2.1.length:Int)then(c_slices_Contains_int_int k (((e0.2.2.2.2.2.2.2.1.take d.2.2.2.1.toNat).drop 0),v0)).bind fun v1=>
 (bif v1 then some false else self ((),d.2.1,d.2.2.1,(wrapK .i64 (d.2.2.2.1+(1:Int))),e0))else none)else none)))else self ((),d.2.1,d.2.2.1,(wrapK .i64 (d.2.2.2.1+(1:Int))),e0))else none)else(bif (e0.1==(2:Int))then some true else(bif ((e0.2.2.2.2.2.2.2.2.2.length:Int)==(0:Int))then some ((intBits .and .i64 e0.2.1 (512:Int))==(0:Int))else some false)))
def impl_IsInode(k:Nat)(x0:DInode):Option Bool:=
 (joinK (R:=Bool) ((bif (x0.1==(0:Int))then(c_impl_SameInode k (x0,((0:Int),(0:Int),(0:Int),(0:Int),(0:Int),(0:Int),(0:Int),([]:List Int),([]:List DOpen),([]:List DOpen)))).bind fun y2=>
 ((some y2).map .inr)else(bif (x0.1==(1:Int))then(bif (x0.1==(1:Int))then some (.inl ((),x0))else((some false).map .inr))else(bif (x0.1==(2:Int))then some (.inl ((),x0))else((some false).map .inr))))) fun(d1:(Unit×DInode))=>let e0:=d1.2.2.2.2;let e1:=e0.2.2.2.2;(c_impl_isMode k d1.2.2.1).bind fun y3=>
 (bif (!y3)then some false else(c_impl_isUser k d1.2.2.2.1).bind fun y4=>
 (bif (!y4)then some false else(c_impl_isUser k e0.1).bind fun y5=>
 (bif (!y5)then some false else(bif (decide (e0.2.1<(0:Int)))then some false else(bif (decide ((1000:Int)<e0.2.1))then some false else(bif (decide (e0.2.2.1<(0:Int)))then some false else(bif (decide ((256:Int)<e0.2.2.1))then some false else(bif (decide (e0.2.2.2.1<(0:Int)))then some false else(bif (decide ((1000000000:Int)<e0.2.2.2.1))then some false else(c_impl_BlocksNeeded k e0.2.2.1).bind fun y6=>
 (bif ((e1.1.length:Int) != y6)then some false else(c_impl_IsAcl k e1.2.1).bind fun y7=>
 (bif (!y7)then some false else(c_impl_IsAcl k e1.2.2).bind fun y8=>
 (bif (!y8)then some false else iter k (impl_IsInode_l1 k) ((),e1.1,(e1.1.length:Int),(0:Int),d1.2))))))))))))))
theorem impl_IsInode_run(k:Nat)(x0:DInode):c_impl_IsInode (k+1) (x0)=impl_IsInode k x0:=by kernel_rfl
def impl_BlockOwner(k:Nat)(x0:Int):Option Int:=
 (bif (decide (x0<(0:Int)))then some (-1:Int)else(bif (decide ((56:Int)≤x0))then some (-1:Int)else(if((14:Int):Int)≠0 then some (wrapK .i64 (x0.tdiv (14:Int)))else none)))
theorem impl_BlockOwner_run(k:Nat)(x0:Int):c_impl_BlockOwner (k+1) (x0)=impl_BlockOwner k x0:=by kernel_rfl
def impl_IsZeroes_l1(k:Nat)(self:_→Option Bool)(d:(ByteArray×DQuota)):=
 (bif (decide (d.2.2<d.2.1))then(if 0≤d.2.2 then((d.1[d.2.2.toNat]?.map fun v0=>(v0.toNat:Int))).bind fun v1=>
 (bif (v1 != (0:Int))then some false else self (d.1,d.2.1,(wrapK .i64 (d.2.2+(1:Int)))))else none)else some true)
def impl_IsZeroes(k:Nat)(x0:ByteArray):Option Bool:=
 iter k (impl_IsZeroes_l1 k) (x0,(x0.size:Int),(0:Int))
theorem impl_IsZeroes_run(k:Nat)(x0:ByteArray):c_impl_IsZeroes (k+1) (x0)=impl_IsZeroes k x0:=by kernel_rfl
def impl_IsFS_l1(k:Nat)(a0:_→Option Bool)(self:_→Option Bool)(d:(Unit×(Unit×(Unit×((List DInode)×(Int×(Int×((List Int)×(Int×(Int×(DInode×((List Bool)×DFS)))))))))))):=
 let e0:=d.2.2.2.2
 let e1:=e0.2.2.2.2
 (bif (decide (e1.1<e0.2.2.2.1))then(if 0≤e1.1 then(e0.2.2.1[e1.1.toNat]?).bind fun v0=>
 (bif (v0==(-1:Int))then self ((),(),(),d.2.2.2.1,e0.1,e0.2.1,e0.2.2.1,e0.2.2.2.1,(wrapK .i64 (e1.1+(1:Int))),e1.2.1,e1.2.2.1,e1.2.2.2)else(c_impl_BlockOwner k v0).bind fun v1=>
 (bif (v1 != e1.2.1.2.2.1)then some false else(if 0≤v0 then(if v0<(56:Int)then(e1.2.2.1[v0.toNat]?).bind fun v2=>
 (bif v2 then some false else(if 0≤v0 then(if v0<(56:Int)then(e1.2.2.1[v0.toNat]?).bind fun v3=>
 (bif (decide ((wrapK .i64 (e1.2.1.2.2.2.2.2.1-(wrapK .i64 (e1.1*(32:Int)))))<(32:Int)))then(if 0≤v0 then(e1.2.2.2.2.2.2[v0.toNat]?).bind fun v4=>
 (if 0≤(wrapK .i64 (e1.2.1.2.2.2.2.2.1-(wrapK .i64 (e1.1*(32:Int)))))then(if(wrapK .i64 (e1.2.1.2.2.2.2.2.1-(wrapK .i64 (e1.1*(32:Int)))))≤(v4.size:Int)then(c_impl_IsZeroes k (v4.extract ((wrapK .i64 (e1.2.1.2.2.2.2.2.1-(wrapK .i64 (e1.1*(32:Int))))).toNat) v4.size)).bind fun v5=>
 (bif (!v5)then some false else self ((),(),(),d.2.2.2.1,e0.1,e0.2.1,e0.2.2.1,e0.2.2.2.1,(wrapK .i64 (e1.1+(1:Int))),e1.2.1,(e1.2.2.1.set v0.toNat true),e1.2.2.2))else none)else none)else none)else self ((),(),(),d.2.2.2.1,e0.1,e0.2.1,e0.2.2.1,e0.2.2.2.1,(wrapK .i64 (e1.1+(1:Int))),e1.2.1,(e1.2.2.1.set v0.toNat true),e1.2.2.2))else none)else none))else none)else none)))else none)else a0 ((),(),d.2.2.2.1,e0.1,(wrapK .i64 (e0.2.1+(1:Int))),e1.2.2.1,e1.2.2.2))
def impl_IsFS_l2(k:Nat)(self:_→Option Bool)(d:(Unit×(Unit×((List ByteArray)×(Int×(Int×((List Bool)×DFS))))))):=
 let e0:=d.2.2.2.2
 (bif (decide (e0.1<d.2.2.2.1))then(if 0≤e0.1 then(d.2.2.1[e0.1.toNat]?).bind fun v0=>
 (if 0≤e0.1 then(if e0.1<(56:Int)then(e0.2.1[e0.1.toNat]?).bind fun v1=>
 (bif (!v1)then(c_impl_IsZeroes k v0).bind fun v2=>
 (bif (!v2)then some false else self ((),(),d.2.2.1,d.2.2.2.1,(wrapK .i64 (e0.1+(1:Int))),e0.2.1,e0.2.2))else self ((),(),d.2.2.1,d.2.2.2.1,(wrapK .i64 (e0.1+(1:Int))),e0.2.1,e0.2.2))else none)else none)else none)else(if 0≤(0:Int)then(e0.2.2.2.2.1[(0:Int).toNat]?).bind fun v3=>
 some (v3.1==(2:Int))else none))
def impl_IsFS_l3(k:Nat)(self:_→Option Bool)(d:(Unit×(Unit×((List DInode)×(Int×(Int×((List Bool)×DFS))))))):=
 let e0:=d.2.2.2.2
 (bif (decide (e0.1<d.2.2.2.1))then(if 0≤e0.1 then(d.2.2.1[e0.1.toNat]?).bind fun v0=>
 (c_impl_IsInode k v0).bind fun v1=>
 (bif (!v1)then some false else iter k (impl_IsFS_l1 k self) ((),(),(),d.2.2.1,d.2.2.2.1,e0.1,v0.2.2.2.2.2.2.2.1,(v0.2.2.2.2.2.2.2.1.length:Int),(0:Int),v0,e0.2.1,e0.2.2))else none)else iter k (impl_IsFS_l2 k) ((),(),e0.2.2.2.2.2,(e0.2.2.2.2.2.length:Int),(0:Int),e0.2.1,e0.2.2))
def impl_IsFS_l4(k:Nat)(self:_→Option Bool)(d:(Unit×((List ByteArray)×(Int×(Int×DFS))))):=
 let e0:=d.2.2.2.2
 (bif (decide (d.2.2.2.1<d.2.2.1))then(if 0≤d.2.2.2.1 then(d.2.1[d.2.2.2.1.toNat]?).bind fun v0=>
 (bif ((v0.size:Int) != (32:Int))then some false else self ((),d.2.1,d.2.2.1,(wrapK .i64 (d.2.2.2.1+(1:Int))),e0))else none)else iter k (impl_IsFS_l3 k) ((),(),e0.2.2.1,(e0.2.2.1.length:Int),(0:Int),(List.replicate 56 false),e0))
def impl_IsFS_l5(k:Nat)(self:_→Option Bool)(d:(Unit×((List DQuota)×(Int×(Int×DFS))))):=
 let e0:=d.2.2.2.2
 (bif (decide (d.2.2.2.1<d.2.2.1))then(if 0≤d.2.2.2.1 then(d.2.1[d.2.2.2.1.toNat]?).bind fun v0=>
 (bif (decide (v0.1<(0:Int)))then some false else(bif (decide ((5:Int)<v0.1))then some false else(bif (decide (v0.2<(0:Int)))then some false else(bif (decide ((14:Int)<v0.2))then some false else self ((),d.2.1,d.2.2.1,(wrapK .i64 (d.2.2.2.1+(1:Int))),e0)))))else none)else iter k (impl_IsFS_l4 k) ((),e0.2.2.2,(e0.2.2.2.length:Int),(0:Int),e0))
def impl_IsFS(k:Nat)(x0:DFS):Option Bool:=
 (bif (decide (x0.1<(0:Int)))then some false else(bif (decide ((1000000000:Int)<x0.1))then some false else(bif ((x0.2.1.length:Int) != (4:Int))then some false else(bif ((x0.2.2.1.length:Int) != (20:Int))then some false else(bif ((x0.2.2.2.length:Int) != (56:Int))then some false else iter k (impl_IsFS_l5 k) ((),x0.2.1,(x0.2.1.length:Int),(0:Int),x0))))))
theorem impl_IsFS_run(k:Nat)(x0:DFS):c_impl_IsFS (k+1) (x0)=impl_IsFS k x0:=by kernel_rfl
def impl_IsCred_l1(k:Nat)(self:_→Option Bool)(d:(Unit×((List Int)×(Int×(Int×DCred))))):=
 let e0:=d.2.2.2.2
 (bif (decide (d.2.2.2.1<d.2.2.1))then(if 0≤d.2.2.2.1 then(d.2.1[d.2.2.2.1.toNat]?).bind fun v0=>
 (c_impl_isUser k v0).bind fun v1=>
 (bif (!v1)then some false else(bif (decide ((0:Int)<d.2.2.2.1))then(if 0≤(wrapK .i64 (d.2.2.2.1-(1:Int)))then(e0.2.2[(wrapK .i64 (d.2.2.2.1-(1:Int))).toNat]?).bind fun v2=>
 (bif (decide (v0≤v2))then some false else self ((),d.2.1,d.2.2.1,(wrapK .i64 (d.2.2.2.1+(1:Int))),e0))else none)else self ((),d.2.1,d.2.2.1,(wrapK .i64 (d.2.2.2.1+(1:Int))),e0)))else none)else(c_impl_isUser k e0.1).bind fun v3=>
 (bif v3 then(c_impl_isUser k e0.2.1).bind fun v4=>
 some v4 else some false))
def impl_IsCred(k:Nat)(x0:DCred):Option Bool:=
 iter k (impl_IsCred_l1 k) ((),x0.2.2,(x0.2.2.length:Int),(0:Int),x0)
theorem impl_IsCred_run(k:Nat)(x0:DCred):c_impl_IsCred (k+1) (x0)=impl_IsCred k x0:=by kernel_rfl
def impl_FS_has(k:Nat)(x0:(Option DFS))(x1:Int):Option Bool:=
 (bif (decide ((0:Int)≤x1))then(bif (decide (x1<(20:Int)))then(x0).bind fun y1=>
 (if 0≤x1 then(y1.2.2.1[x1.toNat]?).bind fun y2=>
 some (y2.1 != (0:Int))else none)else some false)else some false)
theorem impl_FS_has_run(k:Nat)(x0:(Option DFS))(x1:Int):c_impl_FS_has (k+1) (x0,x1)=impl_FS_has k x0 x1:=by kernel_rfl
def impl_FS_isDir(k:Nat)(x0:(Option DFS))(x1:Int):Option Bool:=
 (c_impl_FS_has k (x0,x1)).bind fun y1=>
 (bif y1 then(x0).bind fun y2=>
 (if 0≤x1 then(y2.2.2.1[x1.toNat]?).bind fun y3=>
 some (y3.1==(2:Int))else none)else some false)
theorem impl_FS_isDir_run(k:Nat)(x0:(Option DFS))(x1:Int):c_impl_FS_isDir (k+1) (x0,x1)=impl_FS_isDir k x0 x1:=by kernel_rfl
def impl_System_isOpen_l1(k:Nat)(a0:_→Option Bool)(self:_→Option Bool)(d:(Int×((List DProc)×(Int×(Int×((List DOpen)×DQuota)))))):=
 let e0:=d.2.2.2.2
 (bif (decide (e0.2.2<e0.2.1))then(if 0≤e0.2.2 then(e0.1[e0.2.2.toNat]?).bind fun v0=>
 (bif (v0.2.2 != (0:Int))then(bif (v0.1==d.1)then some true else self (d.1,d.2.1,d.2.2.1,d.2.2.2.1,e0.1,e0.2.1,(wrapK .i64 (e0.2.2+(1:Int)))))else self (d.1,d.2.1,d.2.2.1,d.2.2.2.1,e0.1,e0.2.1,(wrapK .i64 (e0.2.2+(1:Int)))))else none)else a0 (d.1,d.2.1,d.2.2.1,(wrapK .i64 (d.2.2.2.1+(1:Int)))))
def impl_System_isOpen_l2(k:Nat)(self:_→Option Bool)(d:(Int×((List DProc)×DQuota))):=
 (bif (decide (d.2.2.2<d.2.2.1))then(if 0≤d.2.2.2 then(d.2.1[d.2.2.2.toNat]?).bind fun v0=>
 iter k (impl_System_isOpen_l1 k self) (d.1,d.2.1,d.2.2.1,d.2.2.2,v0.2,(v0.2.length:Int),(0:Int))else none)else some false)
def impl_System_isOpen(k:Nat)(x0:(Option DSystem))(x1:Int):Option Bool:=
 (x0).bind fun y1=>
 iter k (impl_System_isOpen_l2 k) (x1,y1.2,(y1.2.length:Int),(0:Int))
theorem impl_System_isOpen_run(k:Nat)(x0:(Option DSystem))(x1:Int):c_impl_System_isOpen (k+1) (x0,x1)=impl_System_isOpen k x0 x1:=by kernel_rfl
def impl_IsSystem_l1(k:Nat)(a0:_→Option Bool)(self:_→Option Bool)(d:(Unit×((List DProc)×(Int×(Int×((List DOpen)×(Int×(Int×DSystem)))))))):=
 let e0:=d.2.2.2.2
 (bif (decide (e0.2.2.1<e0.2.1))then(if 0≤e0.2.2.1 then(e0.1[e0.2.2.1.toNat]?).bind fun v0=>
 (bif ((v0.1==(0:Int))&&((v0.2.1==(0:Int))&&(v0.2.2==(0:Int))))then self ((),d.2.1,d.2.2.1,d.2.2.2.1,e0.1,e0.2.1,(wrapK .i64 (e0.2.2.1+(1:Int))),e0.2.2.2)else(bif (decide (v0.2.2<(1:Int)))then some false else(bif (decide ((63:Int)<v0.2.2))then some false else(bif ((intBits .and .i64 v0.2.2 (6:Int))==(0:Int))then some false else(c_impl_FS_has k ((some e0.2.2.2.1),v0.1)).bind fun v1=>
 (bif (!v1)then some false else(c_impl_FS_isDir k ((some e0.2.2.2.1),v0.1)).bind fun v2=>
 (bif v2 then some false else(bif (decide (v0.2.1<(0:Int)))then some false else(bif (decide ((1000000:Int)<v0.2.1))then some false else self ((),d.2.1,d.2.2.1,d.2.2.2.1,e0.1,e0.2.1,(wrapK .i64 (e0.2.2.1+(1:Int))),e0.2.2.2)))))))))else none)else a0 ((),d.2.1,d.2.2.1,(wrapK .i64 (d.2.2.2.1+(1:Int))),e0.2.2.2))
def impl_IsSystem_l2(k:Nat)(self:_→Option Bool)(d:(Unit×((List DInode)×(Int×(Int×DSystem))))):=
 let e0:=d.2.2.2.2
 (bif (decide (d.2.2.2.1<d.2.2.1))then(if 0≤d.2.2.2.1 then(d.2.1[d.2.2.2.1.toNat]?).bind fun v0=>
 (bif (v0.1==(1:Int))then(bif (v0.2.2.2.2.1==(0:Int))then(c_impl_System_isOpen k ((some e0),d.2.2.2.1)).bind fun v1=>
 (bif (!v1)then some false else self ((),d.2.1,d.2.2.1,(wrapK .i64 (d.2.2.2.1+(1:Int))),e0))else self ((),d.2.1,d.2.2.1,(wrapK .i64 (d.2.2.2.1+(1:Int))),e0))else self ((),d.2.1,d.2.2.1,(wrapK .i64 (d.2.2.2.1+(1:Int))),e0))else none)else some true)
def impl_IsSystem_l3(k:Nat)(self:_→Option Bool)(d:(Unit×((List DProc)×(Int×(Int×DSystem))))):=
 let e0:=d.2.2.2.2
 (bif (decide (d.2.2.2.1<d.2.2.1))then(if 0≤d.2.2.2.1 then(d.2.1[d.2.2.2.1.toNat]?).bind fun v0=>
 (c_impl_IsCred k v0.1).bind fun v1=>
 (bif (!v1)then some false else(bif ((v0.2.length:Int) != (3:Int))then some false else iter k (impl_IsSystem_l1 k self) ((),d.2.1,d.2.2.1,d.2.2.2.1,v0.2,(v0.2.length:Int),(0:Int),e0)))else none)else iter k (impl_IsSystem_l2 k) ((),e0.1.2.2.1,(e0.1.2.2.1.length:Int),(0:Int),e0))
def impl_IsSystem(k:Nat)(x0:DSystem):Option Bool:=
 (c_impl_IsFS k x0.1).bind fun y1=>
 (bif (!y1)then some false else(bif ((x0.2.length:Int) != (4:Int))then some false else iter k (impl_IsSystem_l3 k) ((),x0.2,(x0.2.length:Int),(0:Int),x0)))
theorem impl_IsSystem_run(k:Nat)(x0:DSystem):c_impl_IsSystem (k+1) (x0)=impl_IsSystem k x0:=by kernel_rfl
def impl_IsDisk_l1(k:Nat)(self:_→Option Bool)(d:(Unit×((List DWrite)×(Int×(Int×DDisk))))):=
 (bif (decide (d.2.2.2.1<d.2.2.1))then(if 0≤d.2.2.2.1 then(d.2.1[d.2.2.2.1.toNat]?).bind fun v0=>
 (bif (decide (v0.1<(0:Int)))then some false else(bif (decide ((d.2.2.2.2.1.length:Int)≤v0.1))then some false else(bif ((v0.2.size:Int) != (32:Int))then some false else self ((),d.2.1,d.2.2.1,(wrapK .i64 (d.2.2.2.1+(1:Int))),d.2.2.2.2))))else none)else some true)
def impl_IsDisk_l2(k:Nat)(self:_→Option Bool)(d:(Unit×((List ByteArray)×(Int×(Int×DDisk))))):=
 let e0:=d.2.2.2.2
 (bif (decide (d.2.2.2.1<d.2.2.1))then(if 0≤d.2.2.2.1 then(d.2.1[d.2.2.2.1.toNat]?).bind fun v0=>
 (bif ((v0.size:Int) != (32:Int))then some false else self ((),d.2.1,d.2.2.1,(wrapK .i64 (d.2.2.2.1+(1:Int))),e0))else none)else iter k (impl_IsDisk_l1 k) ((),e0.2,(e0.2.length:Int),(0:Int),e0))
def impl_IsDisk(k:Nat)(x0:DDisk):Option Bool:=
 (bif (decide ((400:Int)<(x0.1.length:Int)))then some false else(bif (decide ((400:Int)<(x0.2.length:Int)))then some false else iter k (impl_IsDisk_l2 k) ((),x0.1,(x0.1.length:Int),(0:Int),x0)))
theorem impl_IsDisk_run(k:Nat)(x0:DDisk):c_impl_IsDisk (k+1) (x0)=impl_IsDisk k x0:=by kernel_rfl
def impl_Disk_read_l1(k:Nat)(self:_→Option ByteArray)(d:((Option DDisk)×DQuota)):=
 (bif (decide ((0:Int)≤d.2.2))then(d.1).bind fun v0=>
 (if 0≤d.2.2 then(v0.2[d.2.2.toNat]?).bind fun v1=>
 (bif (v1.1==d.2.1)then(d.1).bind fun v2=>
 (if 0≤d.2.2 then(v2.2[d.2.2.toNat]?).bind fun v3=>
 some v3.2 else none)else self (d.1,d.2.1,(wrapK .i64 (d.2.2-(1:Int)))))else none)else(d.1).bind fun v4=>
 (if 0≤d.2.1 then(v4.1[d.2.1.toNat]?).bind fun v5=>
 some v5 else none))
def impl_Disk_read(k:Nat)(x0:(Option DDisk))(x1:Int):Option ByteArray:=
 (x0).bind fun y1=>
 iter k (impl_Disk_read_l1 k) (x0,x1,(wrapK .i64 ((y1.2.length:Int)-(1:Int))))
theorem impl_Disk_read_run(k:Nat)(x0:(Option DDisk))(x1:Int):c_impl_Disk_read (k+1) (x0,x1)=impl_Disk_read k x0 x1:=by kernel_rfl
def impl_GetNumber_l1(k:Nat)(self:_→Option (Int×Bool))(d:(ByteArray×(Int×DOpen))):=
 let e0:=d.2.2.2.2
 (bif (decide (e0<d.2.2.2.1))then(if 0≤(8:Int)then(if 0≤(wrapK .i64 (d.2.1+e0))then((d.1[(wrapK .i64 (d.2.1+e0)).toNat]?.map fun v0=>(v0.toNat:Int))).bind fun v1=>
 self (d.1,d.2.1,(intBits .or .i64 (wrapK .i64 (d.2.2.1*2 ^(min (8:Int).toNat (IntKind.bits .i64)))) (wrapK .i64 v1)),d.2.2.2.1,(wrapK .i64 (e0+(1:Int))))else none)else none)else some (d.2.2.1,true))
def impl_GetNumber(k:Nat)(x0:ByteArray)(x1:Int)(x2:Int):Option (Int×Bool):=
 (bif (decide (x2<(1:Int)))then some ((0:Int),false)else(bif (decide ((6:Int)<x2))then some ((0:Int),false)else(bif (decide (x1<(0:Int)))then some ((0:Int),false)else(bif (decide ((wrapK .i64 ((x0.size:Int)-x2))<x1))then some ((0:Int),false)else iter k (impl_GetNumber_l1 k) (x0,x1,(0:Int),x2,(0:Int))))))
theorem impl_GetNumber_run(k:Nat)(x0:ByteArray)(x1:Int)(x2:Int):c_impl_GetNumber (k+1) (x0,x1,x2)=impl_GetNumber k x0 x1 x2:=by kernel_rfl
def impl_listed_l1(k:Nat)(self:_→Option Bool)(d:((List DWrite)×((List DWrite)×DQuota))):=
 (bif (decide (d.2.2.2<d.2.2.1))then(if 0≤d.2.2.2 then(d.2.1[d.2.2.2.toNat]?).bind fun v0=>
 (bif (decide (v0.1<(0:Int)))then some false else(bif (decide ((400:Int)≤v0.1))then some false else self (d.1,d.2.1,d.2.2.1,(wrapK .i64 (d.2.2.2+(1:Int))))))else none)else(bif (decide ((1:Int)≤(d.1.length:Int)))then some (decide ((d.1.length:Int)≤(64:Int)))else some false))
def impl_listed(k:Nat)(x0:(List DWrite)):Option Bool:=
 iter k (impl_listed_l1 k) (x0,x0,(x0.length:Int),(0:Int))
theorem impl_listed_run(k:Nat)(x0:(List DWrite)):c_impl_listed (k+1) (x0)=impl_listed k x0:=by kernel_rfl
def impl_PutNumber_l1(k:Nat)(self:_→Option ByteArray)(d:(Int×((List Int)×Int))):=
 (bif (decide ((0:Int)≤d.2.2))then(if 0≤d.2.2 then(if d.2.2<(d.2.1.length:Int)then(d.2.1[d.2.2.toNat]?).bind fun v0=>
 (if 0≤(8:Int)then self ((d.1.fdiv (2 ^(min (8:Int).toNat (IntKind.bits .i64)))),(d.2.1.set d.2.2.toNat (wrapK .u8 d.1)),(wrapK .i64 (d.2.2-(1:Int))))else none)else none)else none)else some (ofBytes d.2.1))
def impl_PutNumber(k:Nat)(x0:Int)(x1:Int):Option ByteArray:=
 (bif (decide (x1<(1:Int)))then some (⟨#[]⟩:ByteArray)else(bif (decide ((6:Int)<x1))then some (⟨#[]⟩:ByteArray)else(bif (decide (x0<(0:Int)))then some (⟨#[]⟩:ByteArray)else(if 0≤(wrapK .i64 ((8:Int)*x1))then(bif (decide ((wrapK .i64 ((1:Int)*2 ^(min (wrapK .i64 ((8:Int)*x1)).toNat (IntKind.bits .i64))))≤x0))then some (⟨#[]⟩:ByteArray)else(if 0≤x1 then(if x1≤x1 then(if x1*1≤(capBytes:Int)then iter k (impl_PutNumber_l1 k) (x0,(List.replicate x1.toNat (0:Int)),(wrapK .i64 (x1-(1:Int))))else none)else none)else none))else none))))
theorem impl_PutNumber_run(k:Nat)(x0:Int)(x1:Int):c_impl_PutNumber (k+1) (x0,x1)=impl_PutNumber k x0 x1:=by kernel_rfl
def impl_PadTo(k:Nat)(x0:ByteArray)(x1:Int):Option ByteArray:=
 (bif (decide (x1≤(x0.size:Int)))then some x0 else(bif (decide ((100000:Int)<x1))then some (⟨#[]⟩:ByteArray)else(c_strings_Repeat k ((⟨#[0]⟩:ByteArray),(wrapK .i64 (x1-(x0.size:Int))))).bind fun y1=>
 (if x0.size+y1.size≤9223372036854775807 then some (x0++y1)else none)))
theorem impl_PadTo_run(k:Nat)(x0:ByteArray)(x1:Int):c_impl_PadTo (k+1) (x0,x1)=impl_PadTo k x0 x1:=by kernel_rfl
def impl_ChecksumOf_l1(k:Nat)(self:_→Option Int)(d:(ByteArray×(Int×DOpen))):=
 let e0:=d.2.2.2.2
 (bif (decide (e0<d.2.2.2.1))then(if 0≤e0 then((d.1[e0.toNat]?.map fun v0=>(v0.toNat:Int))).bind fun v1=>
 (if((65521:Int):Int)≠0 then(if((65521:Int):Int)≠0 then self (d.1,((wrapK .i64 (d.2.1+(wrapK .i64 v1))).tmod (65521:Int)),((wrapK .i64 (d.2.2.1+((wrapK .i64 (d.2.1+(wrapK .i64 v1))).tmod (65521:Int)))).tmod (65521:Int)),d.2.2.2.1,(wrapK .i64 (e0+(1:Int))))else none)else none)else none)else some (wrapK .i64 ((wrapK .i64 (d.2.2.1*(65536:Int)))+d.2.1)))
def impl_ChecksumOf(k:Nat)(x0:ByteArray):Option Int:=
 iter k (impl_ChecksumOf_l1 k) (x0,(1:Int),(0:Int),(x0.size:Int),(0:Int))
theorem impl_ChecksumOf_run(k:Nat)(x0:ByteArray):c_impl_ChecksumOf (k+1) (x0)=impl_ChecksumOf k x0:=by kernel_rfl
def impl_CommitSector_l1(k:Nat)(self:_→Option ByteArray)(d:(Int×((List DWrite)×(ByteArray×((List DWrite)×DQuota))))):=
 let e0:=d.2.2.2.2
 (bif (decide (e0.2<e0.1))then(if 0≤e0.2 then(d.2.2.2.1[e0.2.toNat]?).bind fun v0=>
 (c_impl_PutNumber k (v0.1,(2:Int))).bind fun v1=>
 (if v1.size+v0.2.size≤9223372036854775807 then(if d.2.2.1.size+(v1++v0.2).size≤9223372036854775807 then self (d.1,d.2.1,(d.2.2.1++(v1++v0.2)),d.2.2.2.1,e0.1,(wrapK .i64 (e0.2+(1:Int))))else none)else none)else none)else(c_impl_PutNumber k (d.1,(4:Int))).bind fun v2=>
 (if(⟨#[74,82,78,76]⟩:ByteArray).size+v2.size≤9223372036854775807 then(c_impl_PutNumber k ((d.2.1.length:Int),(2:Int))).bind fun v3=>
 (if((⟨#[74,82,78,76]⟩:ByteArray)++v2).size+v3.size≤9223372036854775807 then(c_impl_ChecksumOf k d.2.2.1).bind fun v4=>
 (c_impl_PutNumber k (v4,(4:Int))).bind fun v5=>
 (if(((⟨#[74,82,78,76]⟩:ByteArray)++v2)++v3).size+v5.size≤9223372036854775807 then(c_impl_PadTo k (((((⟨#[74,82,78,76]⟩:ByteArray)++v2)++v3)++v5),(32:Int))).bind fun v6=>
 some v6 else none)else none)else none))
def impl_CommitSector(k:Nat)(x0:Int)(x1:(List DWrite)):Option ByteArray:=
 (bif (decide (x0<(0:Int)))then some (⟨#[]⟩:ByteArray)else(bif (decide ((1000000000:Int)<x0))then some (⟨#[]⟩:ByteArray)else(c_impl_listed k x1).bind fun y1=>
 (bif (!y1)then some (⟨#[]⟩:ByteArray)else iter k (impl_CommitSector_l1 k) (x0,x1,(⟨#[]⟩:ByteArray),x1,(x1.length:Int),(0:Int)))))
theorem impl_CommitSector_run(k:Nat)(x0:Int)(x1:(List DWrite)):c_impl_CommitSector (k+1) (x0,x1)=impl_CommitSector k x0 x1:=by kernel_rfl
def impl_IsTxn_l1(k:Nat)(self:_→Option Bool)(d:((List DWrite)×(Unit×((List DWrite)×(Int×(Int×DDisk)))))):=
 let e0:=d.2.2.2.2
 (bif (decide (e0.1<d.2.2.2.1))then(if 0≤e0.1 then(d.2.2.1[e0.1.toNat]?).bind fun v0=>
 (bif (decide (v0.1<(0:Int)))then some false else(bif (decide ((e0.2.1.length:Int)≤v0.1))then some false else(bif (decide ((1:Int)≤v0.1))then(bif (decide (v0.1<(70:Int)))then some false else(bif ((v0.2.size:Int) != (32:Int))then some false else(bif (decide ((0:Int)<e0.1))then(if 0≤(wrapK .i64 (e0.1-(1:Int)))then(d.1[(wrapK .i64 (e0.1-(1:Int))).toNat]?).bind fun v1=>
 (bif (decide (v0.1≤v1.1))then some false else self (d.1,(),d.2.2.1,d.2.2.2.1,(wrapK .i64 (e0.1+(1:Int))),e0.2))else none)else self (d.1,(),d.2.2.1,d.2.2.2.1,(wrapK .i64 (e0.1+(1:Int))),e0.2))))else(bif ((v0.2.size:Int) != (32:Int))then some false else(bif (decide ((0:Int)<e0.1))then(if 0≤(wrapK .i64 (e0.1-(1:Int)))then(d.1[(wrapK .i64 (e0.1-(1:Int))).toNat]?).bind fun v2=>
 (bif (decide (v0.1≤v2.1))then some false else self (d.1,(),d.2.2.1,d.2.2.2.1,(wrapK .i64 (e0.1+(1:Int))),e0.2))else none)else self (d.1,(),d.2.2.1,d.2.2.2.1,(wrapK .i64 (e0.1+(1:Int))),e0.2))))))else none)else some true)
def impl_IsTxn(k:Nat)(x0:DDisk)(x1:(List DWrite)):Option Bool:=
 (c_impl_IsDisk k x0).bind fun y1=>
 (bif (!y1)then some false else(bif (decide ((x0.1.length:Int)<(70:Int)))then some false else(bif (decide ((x1.length:Int)<(1:Int)))then some false else(bif (decide ((64:Int)<(x1.length:Int)))then some false else iter k (impl_IsTxn_l1 k) (x1,(),x1,(x1.length:Int),(0:Int),x0)))))
theorem impl_IsTxn_run(k:Nat)(x0:DDisk)(x1:(List DWrite)):c_impl_IsTxn (k+1) (x0,x1)=impl_IsTxn k x0 x1:=by kernel_rfl
def impl_ReadJournal_l1(k:Nat)(self:_→Option (Int×((List DWrite)×Bool)))(d:(Unit×(ByteArray×(Int×((List DWrite)×(Int×(Int×DDisk))))))):=
 let e0:=d.2.2.2.2
 (bif (decide (e0.2.1<e0.1))then(if((16:Int):Int)≠0 then(c_impl_Disk_read k ((some e0.2.2),(wrapK .i64 ((2:Int)+(wrapK .i64 (e0.2.1.tdiv (16:Int))))))).bind fun v0=>
 (if((16:Int):Int)≠0 then(c_impl_GetNumber k (v0,(wrapK .i64 ((2:Int)*(e0.2.1.tmod (16:Int)))),(2:Int))).bind fun v1=>
 (c_impl_Disk_read k ((some e0.2.2),(wrapK .i64 ((6:Int)+e0.2.1)))).bind fun v2=>
 (if(d.2.2.2.1.length+([(v1.1,v2)]:List DWrite).length)*24≤capBytes then self ((),d.2.1,d.2.2.1,(d.2.2.2.1++([(v1.1,v2)]:List DWrite)),e0.1,(wrapK .i64 (e0.2.1+(1:Int))),e0.2.2)else none)else none)else none)else(c_impl_CommitSector k (d.2.2.1,d.2.2.2.1)).bind fun v3=>
 (bif (!(eqS v3 d.2.1))then some ((0:Int),([]:List DWrite),false)else(c_impl_IsTxn k (e0.2.2,d.2.2.2.1)).bind fun v4=>
 (bif (!v4)then some ((0:Int),([]:List DWrite),false)else some (d.2.2.1,d.2.2.2.1,true))))
def impl_ReadJournal(k:Nat)(x0:DDisk):Option (Int×((List DWrite)×Bool)):=
 (c_impl_IsDisk k x0).bind fun y1=>
 (bif (!y1)then some ((0:Int),([]:List DWrite),false)else(bif (decide ((x0.1.length:Int)<(70:Int)))then some ((0:Int),([]:List DWrite),false)else(c_impl_Disk_read k ((some x0),(1:Int))).bind fun y2=>
 (c_impl_GetNumber k (y2,(4:Int),(4:Int))).bind fun y3=>
 (c_impl_GetNumber k (y2,(8:Int),(2:Int))).bind fun y4=>
 (bif (decide ((64:Int)<y4.1))then some ((0:Int),([]:List DWrite),false)else iter k (impl_ReadJournal_l1 k) ((),y2,y3.1,([]:List DWrite),y4.1,(0:Int),x0))))
theorem impl_ReadJournal_run(k:Nat)(x0:DDisk):c_impl_ReadJournal (k+1) (x0)=impl_ReadJournal k x0:=by kernel_rfl
def impl_zeros(k:Nat)(x0:Int):Option ByteArray:=
 (if 0≤x0 then(if x0≤x0 then(if x0*1≤(capBytes:Int)then some (ofBytes (List.replicate x0.toNat (0:Int)))else none)else none)else none)
theorem impl_zeros_run(k:Nat)(x0:Int):c_impl_zeros (k+1) (x0)=impl_zeros k x0:=by kernel_rfl
def impl_FS_super_l1(k:Nat)(self:_→Option ByteArray)(d:(ByteArray×((List DQuota)×DQuota))):=
 (bif (decide (d.2.2.2<d.2.2.1))then(if 0≤d.2.2.2 then(d.2.1[d.2.2.2.toNat]?).bind fun v0=>
 (c_impl_PutNumber k (v0.1,(1:Int))).bind fun v1=>
 (c_impl_PutNumber k (v0.2,(1:Int))).bind fun v2=>
 (if v1.size+v2.size≤9223372036854775807 then(if d.1.size+(v1++v2).size≤9223372036854775807 then self ((d.1++(v1++v2)),d.2.1,d.2.2.1,(wrapK .i64 (d.2.2.2+(1:Int))))else none)else none)else none)else(c_impl_PadTo k (d.1,(32:Int))).bind fun v3=>
 some v3)
def impl_FS_super(k:Nat)(x0:(Option DFS)):Option ByteArray:=
 (x0).bind fun y1=>
 (c_impl_PutNumber k (y1.1,(4:Int))).bind fun y2=>
 (if(⟨#[70,83,89,83]⟩:ByteArray).size+y2.size≤9223372036854775807 then(x0).bind fun y3=>
 iter k (impl_FS_super_l1 k) (((⟨#[70,83,89,83]⟩:ByteArray)++y2),y3.2.1,(y3.2.1.length:Int),(0:Int))else none)
theorem impl_FS_super_run(k:Nat)(x0:(Option DFS)):c_impl_FS_super (k+1) (x0)=impl_FS_super k x0:=by kernel_rfl
def impl_CutAll_l1(k:Nat)(self:_→Option (List ByteArray))(d:(ByteArray×(Int×(List ByteArray)))):=
 (bif (decide ((0:Int)<(d.1.size:Int)))then(if 0≤(min d.2.1 (d.1.size:Int))then(if(min d.2.1 (d.1.size:Int))≤(d.1.size:Int)then(if(d.2.2.length+([(d.1.extract 0 ((min d.2.1 (d.1.size:Int)).toNat))]:List ByteArray).length)*16≤capBytes then(if 0≤(min d.2.1 (d.1.size:Int))then(if(min d.2.1 (d.1.size:Int))≤(d.1.size:Int)then self ((d.1.extract ((min d.2.1 (d.1.size:Int)).toNat) d.1.size),d.2.1,(d.2.2++([(d.1.extract 0 ((min d.2.1 (d.1.size:Int)).toNat))]:List ByteArray)))else none)else none)else none)else none)else none)else some d.2.2)
def impl_CutAll(k:Nat)(x0:ByteArray)(x1:Int):Option (List ByteArray):=
 (bif (decide (x1<(1:Int)))then some ([]:List ByteArray)else(bif (decide ((1000:Int)<x1))then some ([]:List ByteArray)else iter k (impl_CutAll_l1 k) (x0,x1,([]:List ByteArray))))
theorem impl_CutAll_run(k:Nat)(x0:ByteArray)(x1:Int):c_impl_CutAll (k+1) (x0,x1)=impl_CutAll k x0 x1:=by kernel_rfl
def impl_PackAcl_l1(k:Nat)(self:_→Option ByteArray)(d:(ByteArray×((List DOpen)×DQuota))):=
 (bif (decide (d.2.2.2<d.2.2.1))then(if 0≤d.2.2.2 then(d.2.1[d.2.2.2.toNat]?).bind fun v0=>
 (c_impl_PutNumber k (v0.1,(1:Int))).bind fun v1=>
 (c_impl_PutNumber k (v0.2.1,(1:Int))).bind fun v2=>
 (if v1.size+v2.size≤9223372036854775807 then(c_impl_PutNumber k (v0.2.2,(1:Int))).bind fun v3=>
 (if(v1++v2).size+v3.size≤9223372036854775807 then(if d.1.size+((v1++v2)++v3).size≤9223372036854775807 then self ((d.1++((v1++v2)++v3)),d.2.1,d.2.2.1,(wrapK .i64 (d.2.2.2+(1:Int))))else none)else none)else none)else none)else(c_impl_PadTo k (d.1,(19:Int))).bind fun v4=>
 some v4)
def impl_PackAcl(k:Nat)(x0:(List DOpen)):Option ByteArray:=
 (c_impl_IsAcl k x0).bind fun y1=>
 (bif (!y1)then some (⟨#[]⟩:ByteArray)else(c_impl_PutNumber k ((x0.length:Int),(1:Int))).bind fun y2=>
 iter k (impl_PackAcl_l1 k) (y2,x0,(x0.length:Int),(0:Int)))
theorem impl_PackAcl_run(k:Nat)(x0:(List DOpen)):c_impl_PackAcl (k+1) (x0)=impl_PackAcl k x0:=by kernel_rfl
def impl_PackInode_l1(k:Nat)(self:_→Option ByteArray)(d:(Unit×(ByteArray×(Int×DInode)))):=
 let e0:=d.2.2.2.2
 let e1:=e0.2.2.2.2
 (bif (decide (d.2.2.1<(8:Int)))then(bif (decide (d.2.2.1<(e1.2.2.1.length:Int)))then(if 0≤d.2.2.1 then(e1.2.2.1[d.2.2.1.toNat]?).bind fun v0=>
 (c_impl_PutNumber k ((wrapK .i64 (v0+(1:Int))),(2:Int))).bind fun v1=>
 (if d.2.1.size+v1.size≤9223372036854775807 then self ((),(d.2.1++v1),(wrapK .i64 (d.2.2.1+(1:Int))),d.2.2.2)else none)else none)else(c_impl_PutNumber k ((wrapK .i64 ((-1:Int)+(1:Int))),(2:Int))).bind fun v2=>
 (if d.2.1.size+v2.size≤9223372036854775807 then self ((),(d.2.1++v2),(wrapK .i64 (d.2.2.1+(1:Int))),d.2.2.2)else none))else(c_impl_PackAcl k e1.2.2.2.1).bind fun v3=>
 (if d.2.1.size+v3.size≤9223372036854775807 then(c_impl_PackAcl k e1.2.2.2.2).bind fun v4=>
 (if(d.2.1++v3).size+v4.size≤9223372036854775807 then(c_impl_PadTo k (((d.2.1++v3)++v4),(96:Int))).bind fun v5=>
 some v5 else none)else none))
def impl_PackInode(k:Nat)(x0:DInode):Option ByteArray:=
 (c_impl_IsInode k x0).bind fun y1=>
 (bif (!y1)then some (⟨#[]⟩:ByteArray)else(c_impl_PutNumber k (x0.1,(1:Int))).bind fun y2=>
 (c_impl_PutNumber k (x0.2.1,(2:Int))).bind fun y3=>
 (if y2.size+y3.size≤9223372036854775807 then(c_impl_PutNumber k (x0.2.2.1,(1:Int))).bind fun y4=>
 (if(y2++y3).size+y4.size≤9223372036854775807 then(c_impl_PutNumber k (x0.2.2.2.1,(1:Int))).bind fun y5=>
 (if((y2++y3)++y4).size+y5.size≤9223372036854775807 then(c_impl_PutNumber k (x0.2.2.2.2.1,(2:Int))).bind fun y6=>
 (if(((y2++y3)++y4)++y5).size+y6.size≤9223372036854775807 then(c_impl_PutNumber k (x0.2.2.2.2.2.1,(2:Int))).bind fun y7=>
 (if((((y2++y3)++y4)++y5)++y6).size+y7.size≤9223372036854775807 then(c_impl_PutNumber k (x0.2.2.2.2.2.2.1,(4:Int))).bind fun y8=>
 (if(((((y2++y3)++y4)++y5)++y6)++y7).size+y8.size≤9223372036854775807 then iter k (impl_PackInode_l1 k) ((),((((((y2++y3)++y4)++y5)++y6)++y7)++y8),(0:Int),x0)else none)else none)else none)else none)else none)else none))
theorem impl_PackInode_run(k:Nat)(x0:DInode):c_impl_PackInode (k+1) (x0)=impl_PackInode k x0:=by kernel_rfl
def impl_PackFS_l1(k:Nat)(self:_→Option (List ByteArray))(d:(Unit×((List ByteArray)×((List DInode)×(Int×(Int×DFS)))))):=
 let e0:=d.2.2.2.2
 (bif (decide (e0.1<d.2.2.2.1))then(if 0≤e0.1 then(d.2.2.1[e0.1.toNat]?).bind fun v0=>
 (c_impl_PackInode k v0).bind fun v1=>
 (c_impl_CutAll k (v1,(32:Int))).bind fun v2=>
 (if(d.2.1.length+v2.length)*16≤capBytes then self ((),(d.2.1++v2),d.2.2.1,d.2.2.2.1,(wrapK .i64 (e0.1+(1:Int))),e0.2)else none)else none)else(if(d.2.1.length+e0.2.2.2.2.length)*16≤capBytes then some (d.2.1++e0.2.2.2.2)else none))
def impl_PackFS(k:Nat)(x0:DFS):Option (List ByteArray):=
 (c_impl_IsFS k x0).bind fun y1=>
 (bif (!y1)then some ([]:List ByteArray)else(c_impl_FS_super k (some x0)).bind fun y2=>
 (c_impl_zeros k (32:Int)).bind fun y3=>
 (c_slices_Repeat_string_string k (([y3]:List ByteArray),(69:Int))).bind fun y4=>
 (if(([y2]:List ByteArray).length+y4.length)*16≤capBytes then iter k (impl_PackFS_l1 k) ((),(([y2]:List ByteArray)++y4),x0.2.2.1,(x0.2.2.1.length:Int),(0:Int),x0)else none))
theorem impl_PackFS_run(k:Nat)(x0:DFS):c_impl_PackFS (k+1) (x0)=impl_PackFS k x0:=by kernel_rfl
def impl_UnpackAcl_l1(k:Nat)(self:_→Option ((List DOpen)×Bool))(d:(ByteArray×((List DOpen)×DQuota))):=
 (bif (decide (d.2.2.2<d.2.2.1))then(if 0≤(wrapK .i64 ((1:Int)+(wrapK .i64 ((3:Int)*d.2.2.2))))then((d.1[(wrapK .i64 ((1:Int)+(wrapK .i64 ((3:Int)*d.2.2.2)))).toNat]?.map fun v0=>(v0.toNat:Int))).bind fun v1=>
 (if 0≤(wrapK .i64 ((2:Int)+(wrapK .i64 ((3:Int)*d.2.2.2))))then((d.1[(wrapK .i64 ((2:Int)+(wrapK .i64 ((3:Int)*d.2.2.2)))).toNat]?.map fun v0=>(v0.toNat:Int))).bind fun v2=>
 (if 0≤(wrapK .i64 ((3:Int)+(wrapK .i64 ((3:Int)*d.2.2.2))))then((d.1[(wrapK .i64 ((3:Int)+(wrapK .i64 ((3:Int)*d.2.2.2)))).toNat]?.map fun v0=>(v0.toNat:Int))).bind fun v3=>
 (if(d.2.1.length+([((wrapK .i64 v1),(wrapK .i64 v2),(wrapK .i64 v3))]:List DOpen).length)*24≤capBytes then self (d.1,(d.2.1++([((wrapK .i64 v1),(wrapK .i64 v2),(wrapK .i64 v3))]:List DOpen)),d.2.2.1,(wrapK .i64 (d.2.2.2+(1:Int))))else none)else none)else none)else none)else(c_impl_PackAcl k d.2.1).bind fun v4=>
 (bif (!(eqS v4 d.1))then some (([]:List DOpen),false)else some (d.2.1,true)))
def impl_UnpackAcl(k:Nat)(x0:ByteArray):Option ((List DOpen)×Bool):=
 (bif ((x0.size:Int) != (19:Int))then some (([]:List DOpen),false)else(if 0≤(0:Int)then((x0[(0:Int).toNat]?.map fun c=>(c.toNat:Int))).bind fun y1=>
 (bif (decide ((6:Int)<y1))then some (([]:List DOpen),false)else(if 0≤(0:Int)then((x0[(0:Int).toNat]?.map fun c=>(c.toNat:Int))).bind fun y2=>
 iter k (impl_UnpackAcl_l1 k) (x0,([]:List DOpen),(wrapK .i64 y2),(0:Int))else none))else none))
theorem impl_UnpackAcl_run(k:Nat)(x0:ByteArray):c_impl_UnpackAcl (k+1) (x0)=impl_UnpackAcl k x0:=by kernel_rfl
def impl_UnpackInode_l1(k:Nat)(self:_→Option (DInode×Bool))(d:(Unit×(Unit×(Unit×(Unit×(Unit×(Int×(DInode×(Int×(DInode×ByteArray)))))))))):=
 let e0:=d.2.2.2.2
 let e1:=e0.2.2.2.2
 (bif (decide (e0.2.1<(8:Int)))then(c_impl_GetNumber k (e1.2,e0.2.2.2.1,(2:Int))).bind fun v0=>
 (c_impl_BlocksNeeded k e0.2.2.1.2.2.2.2.2.1).bind fun v1=>
 (bif (decide (e0.2.1<v1))then(if(e0.2.2.1.2.2.2.2.2.2.2.1.length+([(wrapK .i64 (v0.1-(1:Int)))]:List Int).length)*8≤capBytes then self ((),(),(),(),(),(wrapK .i64 (e0.2.1+(1:Int))),(e0.2.2.1.1,e0.2.2.1.2.1,e0.2.2.1.2.2.1,e0.2.2.1.2.2.2.1,e0.2.2.1.2.2.2.2.1,e0.2.2.1.2.2.2.2.2.1,e0.2.2.1.2.2.2.2.2.2.1,(e0.2.2.1.2.2.2.2.2.2.2.1++([(wrapK .i64 (v0.1-(1:Int)))]:List Int)),e0.2.2.1.2.2.2.2.2.2.2.2),(wrapK .i64 (e0.2.2.2.1+(2:Int))),e1.1,e1.2)else none)else self ((),(),(),(),(),(wrapK .i64 (e0.2.1+(1:Int))),e0.2.2.1,(wrapK .i64 (e0.2.2.2.1+(2:Int))),e1.1,e1.2))else(if 0≤(wrapK .i64 (e0.2.2.2.1+(19:Int)))then(if(wrapK .i64 (e0.2.2.2.1+(19:Int)))≤(e1.2.size:Int)then(if 0≤e0.2.2.2.1 then(if e0.2.2.2.1≤(((wrapK .i64 (e0.2.2.2.1+(19:Int))).toNat:Nat):Int)then(c_impl_UnpackAcl k (e1.2.extract e0.2.2.2.1.toNat ((wrapK .i64 (e0.2.2.2.1+(19:Int))).toNat))).bind fun v2=>
 (if 0≤(wrapK .i64 (e0.2.2.2.1+(38:Int)))then(if(wrapK .i64 (e0.2.2.2.1+(38:Int)))≤(e1.2.size:Int)then(if 0≤(wrapK .i64 (e0.2.2.2.1+(19:Int)))then(if(wrapK .i64 (e0.2.2.2.1+(19:Int)))≤(((wrapK .i64 (e0.2.2.2.1+(38:Int))).toNat:Nat):Int)then(c_impl_UnpackAcl k (e1.2.extract ((wrapK .i64 (e0.2.2.2.1+(19:Int))).toNat) ((wrapK .i64 (e0.2.2.2.1+(38:Int))).toNat))).bind fun v3=>
 (bif (!v2.2)then some (((0:Int),(0:Int),(0:Int),(0:Int),(0:Int),(0:Int),(0:Int),([]:List Int),([]:List DOpen),([]:List DOpen)),false)else(bif (!v3.2)then some (((0:Int),(0:Int),(0:Int),(0:Int),(0:Int),(0:Int),(0:Int),([]:List Int),([]:List DOpen),([]:List DOpen)),false)else(c_impl_PackInode k (e0.2.2.1.1,e0.2.2.1.2.1,e0.2.2.1.2.2.1,e0.2.2.1.2.2.2.1,e0.2.2.1.2.2.2.2.1,e0.2.2.1.2.2.2.2.2.1,e0.2.2.1.2.2.2.2.2.2.1,e0.2.2.1.2.2.2.2.2.2.2.1,v2.1,v3.1)).bind fun v4=>
 (bif (!(eqS v4 e1.2))then some (((0:Int),(0:Int),(0:Int),(0:Int),(0:Int),(0:Int),(0:Int),([]:List Int),([]:List DOpen),([]:List DOpen)),false)else some ((e0.2.2.1.1,e0.2.2.1.2.1,e0.2.2.1.2.2.1,e0.2.2.1.2.2.2.1,e0.2.2.1.2.2.2.2.1,e0.2.2.1.2.2.2.2.2.1,e0.2.2.1.2.2.2.2.2.2.1,e0.2.2.1.2.2.2.2.2.2.2.1,v2.1,v3.1),true))))else none)else none)else none)else none)else none)else none)else none)else none))
def impl_UnpackInode(k:Nat)(x0:ByteArray):Option (DInode×Bool):=
 (bif ((x0.size:Int) != (96:Int))then some (((0:Int),(0:Int),(0:Int),(0:Int),(0:Int),(0:Int),(0:Int),([]:List Int),([]:List DOpen),([]:List DOpen)),false)else(c_impl_GetNumber k (x0,(0:Int),(1:Int))).bind fun y1=>
 (c_impl_GetNumber k (x0,(wrapK .i64 ((0:Int)+(1:Int))),(2:Int))).bind fun y2=>
 (c_impl_GetNumber k (x0,(wrapK .i64 ((wrapK .i64 ((0:Int)+(1:Int)))+(2:Int))),(1:Int))).bind fun y3=>
 (c_impl_GetNumber k (x0,(wrapK .i64 ((wrapK .i64 ((wrapK .i64 ((0:Int)+(1:Int)))+(2:Int)))+(1:Int))),(1:Int))).bind fun y4=>
 (c_impl_GetNumber k (x0,(wrapK .i64 ((wrapK .i64 ((wrapK .i64 ((wrapK .i64 ((0:Int)+(1:Int)))+(2:Int)))+(1:Int)))+(1:Int))),(2:Int))).bind fun y5=>
 (c_impl_GetNumber k (x0,(wrapK .i64 ((wrapK .i64 ((wrapK .i64 ((wrapK .i64 ((wrapK .i64 ((0:Int)+(1:Int)))+(2:Int)))+(1:Int)))+(1:Int)))+(2:Int))),(2:Int))).bind fun y6=>
 (c_impl_GetNumber k (x0,(wrapK .i64 ((wrapK .i64 ((wrapK .i64 ((wrapK .i64 ((wrapK .i64 ((wrapK .i64 ((0:Int)+(1:Int)))+(2:Int)))+(1:Int)))+(1:Int)))+(2:Int)))+(2:Int))),(4:Int))).bind fun y7=>
 iter k (impl_UnpackInode_l1 k) ((),(),(),(),(),(0:Int),(y1.1,y2.1,y3.1,y4.1,y5.1,y6.1,y7.1,([]:List Int),([]:List DOpen),([]:List DOpen)),(wrapK .i64 ((wrapK .i64 ((wrapK .i64 ((wrapK .i64 ((wrapK .i64 ((wrapK .i64 ((wrapK .i64 ((0:Int)+(1:Int)))+(2:Int)))+(1:Int)))+(1:Int)))+(2:Int)))+(2:Int)))+(4:Int))),((0:Int),(0:Int),(0:Int),(0:Int),(0:Int),(0:Int),(0:Int),([]:List Int),([]:List DOpen),([]:List DOpen)),x0))
theorem impl_UnpackInode_run(k:Nat)(x0:ByteArray):c_impl_UnpackInode (k+1) (x0)=impl_UnpackInode k x0:=by kernel_rfl
def impl_Join(k:Nat)(x0:(List ByteArray))(x1:ByteArray):Option ByteArray:=
 (c_strings_Join k (x0,x1)).bind fun y1=>
 some y1
theorem impl_Join_run(k:Nat)(x0:(List ByteArray))(x1:ByteArray):c_impl_Join (k+1) (x0,x1)=impl_Join k x0 x1:=by kernel_rfl
def impl_UnpackFS_l1(k:Nat)(self:_→Option (DFS×Bool))(d:((List ByteArray)×(Unit×(Unit×((List ByteArray)×(Int×(Int×(DFS×DFS)))))))):=
 let e0:=d.2.2.2.2
 (bif (decide (e0.2.1<e0.1))then(if 0≤e0.2.1 then(if e0.2.1<(d.2.2.2.1.length:Int)then(d.2.2.2.1[e0.2.1.toNat]?).bind fun v0=>
 (bif (decide (e0.2.1<(1:Int)))then(if 0≤e0.2.1 then(d.1[e0.2.1.toNat]?).bind fun v1=>
 (bif (!(eqS v0 v1))then some (((0:Int),([]:List DQuota),([]:List DInode),([]:List ByteArray)),false)else self (d.1,(),(),d.2.2.2.1,e0.1,(wrapK .i64 (e0.2.1+(1:Int))),e0.2.2.1,e0.2.2.2))else none)else(bif (decide ((70:Int)≤e0.2.1))then(if 0≤e0.2.1 then(d.1[e0.2.1.toNat]?).bind fun v2=>
 (bif (!(eqS v0 v2))then some (((0:Int),([]:List DQuota),([]:List DInode),([]:List ByteArray)),false)else self (d.1,(),(),d.2.2.2.1,e0.1,(wrapK .i64 (e0.2.1+(1:Int))),e0.2.2.1,e0.2.2.2))else none)else self (d.1,(),(),d.2.2.2.1,e0.1,(wrapK .i64 (e0.2.1+(1:Int))),e0.2.2.1,e0.2.2.2)))else none)else none)else some (e0.2.2.1,true))
def impl_UnpackFS_l2(k:Nat)(self:_→Option (DFS×Bool))(d:((List ByteArray)×(Unit×(Bool×(Unit×(Int×(DFS×DFS))))))):=
 let e0:=d.2.2.2.2
 (bif (decide (e0.1<(20:Int)))then(if 0≤(wrapK .i64 ((wrapK .i64 ((70:Int)+(wrapK .i64 ((3:Int)*e0.1))))+(3:Int)))then(if(wrapK .i64 ((wrapK .i64 ((70:Int)+(wrapK .i64 ((3:Int)*e0.1))))+(3:Int)))≤(d.1.length:Int)then(if 0≤(wrapK .i64 ((70:Int)+(wrapK .i64 ((3:Int)*e0.1))))then(if(wrapK .i64 ((70:Int)+(wrapK .i64 ((3:Int)*e0.1))))≤(((wrapK .i64 ((wrapK .i64 ((70:Int)+(wrapK .i64 ((3:Int)*e0.1))))+(3:Int))).toNat:Nat):Int)then(c_impl_Join k (((d.1.take ((wrapK .i64 ((wrapK .i64 ((70:Int)+(wrapK .i64 ((3:Int)*e0.1))))+(3:Int))).toNat)).drop ((wrapK .i64 ((70:Int)+(wrapK .i64 ((3:Int)*e0.1)))).toNat)),(⟨#[]⟩:ByteArray))).bind fun v0=>
 (c_impl_UnpackInode k v0).bind fun v1=>
 (if(e0.2.1.2.2.1.length+([v1.1]:List DInode).length)*128≤capBytes then(bif d.2.2.1 then self (d.1,(),v1.2,(),(wrapK .i64 (e0.1+(1:Int))),(e0.2.1.1,e0.2.1.2.1,(e0.2.1.2.2.1++([v1.1]:List DInode)),e0.2.1.2.2.2),e0.2.2)else self (d.1,(),false,(),(wrapK .i64 (e0.1+(1:Int))),(e0.2.1.1,e0.2.1.2.1,(e0.2.1.2.2.1++([v1.1]:List DInode)),e0.2.1.2.2.2),e0.2.2))else none)else none)else none)else none)else none)else(if 0≤(130:Int)then(if(130:Int)≤(d.1.length:Int)then(c_slices_Clone_string_string k ((d.1.take d.1.length).drop ((130:Int).toNat))).bind fun v2=>
 (bif (!d.2.2.1)then some (((0:Int),([]:List DQuota),([]:List DInode),([]:List ByteArray)),false)else(c_impl_IsFS k (e0.2.1.1,e0.2.1.2.1,e0.2.1.2.2.1,v2)).bind fun v3=>
 (bif (!v3)then some (((0:Int),([]:List DQuota),([]:List DInode),([]:List ByteArray)),false)else(c_impl_PackFS k (e0.2.1.1,e0.2.1.2.1,e0.2.1.2.2.1,v2)).bind fun v4=>
 iter k (impl_UnpackFS_l1 k) (d.1,(),(),v4,(v4.length:Int),(0:Int),(e0.2.1.1,e0.2.1.2.1,e0.2.1.2.2.1,v2),e0.2.2)))else none)else none))
def impl_UnpackFS_l3(k:Nat)(self:_→Option (DFS×Bool))(d:((List ByteArray)×(Unit×(Bool×(Unit×(Int×(DFS×DFS))))))):=
 let e0:=d.2.2.2.2
 (bif (decide (e0.1<(4:Int)))then(if 0≤(0:Int)then(d.1[(0:Int).toNat]?).bind fun v0=>
 (c_impl_GetNumber k (v0,(wrapK .i64 ((8:Int)+(wrapK .i64 ((2:Int)*e0.1)))),(1:Int))).bind fun v1=>
 (if 0≤(0:Int)then(d.1[(0:Int).toNat]?).bind fun v2=>
 (c_impl_GetNumber k (v2,(wrapK .i64 ((9:Int)+(wrapK .i64 ((2:Int)*e0.1)))),(1:Int))).bind fun v3=>
 (if(e0.2.1.2.1.length+([(v1.1,v3.1)]:List DQuota).length)*16≤capBytes then(bif d.2.2.1 then(bif v1.2 then self (d.1,(),v3.2,(),(wrapK .i64 (e0.1+(1:Int))),(e0.2.1.1,(e0.2.1.2.1++([(v1.1,v3.1)]:List DQuota)),e0.2.1.2.2),e0.2.2)else self (d.1,(),false,(),(wrapK .i64 (e0.1+(1:Int))),(e0.2.1.1,(e0.2.1.2.1++([(v1.1,v3.1)]:List DQuota)),e0.2.1.2.2),e0.2.2))else self (d.1,(),false,(),(wrapK .i64 (e0.1+(1:Int))),(e0.2.1.1,(e0.2.1.2.1++([(v1.1,v3.1)]:List DQuota)),e0.2.1.2.2),e0.2.2))else none)else none)else none)else iter k (impl_UnpackFS_l2 k) (d.1,(),d.2.2.1,(),(0:Int),e0.2.1,e0.2.2))
def impl_UnpackFS(k:Nat)(x0:(List ByteArray)):Option (DFS×Bool):=
 (bif ((x0.length:Int) != (186:Int))then some (((0:Int),([]:List DQuota),([]:List DInode),([]:List ByteArray)),false)else(if 0≤(0:Int)then(x0[(0:Int).toNat]?).bind fun y1=>
 (c_impl_GetNumber k (y1,(4:Int),(4:Int))).bind fun y2=>
 iter k (impl_UnpackFS_l3 k) (x0,(),y2.2,(),(0:Int),(y2.1,([]:List DQuota),([]:List DInode),([]:List ByteArray)),((0:Int),([]:List DQuota),([]:List DInode),([]:List ByteArray)))else none))
theorem impl_UnpackFS_run(k:Nat)(x0:(List ByteArray)):c_impl_UnpackFS (k+1) (x0)=impl_UnpackFS k x0:=by kernel_rfl
def impl_LoadFS_l1(k:Nat)(self:_→Option (DFS×Bool))(d:(Unit×(Unit×((List ByteArray)×(Int×(Int×(DFS×DDisk))))))):=
 let e0:=d.2.2.2.2
 (bif (decide (e0.1<d.2.2.2.1))then(c_impl_Disk_read k ((some e0.2.2),e0.1)).bind fun v0=>
 (if(d.2.2.1.length+([v0]:List ByteArray).length)*16≤capBytes then self ((),(),(d.2.2.1++([v0]:List ByteArray)),d.2.2.2.1,(wrapK .i64 (e0.1+(1:Int))),e0.2.1,e0.2.2)else none)else(c_impl_UnpackFS k d.2.2.1).bind fun v1=>
 some (v1.1,v1.2))
def impl_LoadFS(k:Nat)(x0:DDisk):Option (DFS×Bool):=
 (c_impl_IsDisk k x0).bind fun y1=>
 (bif (!y1)then some (((0:Int),([]:List DQuota),([]:List DInode),([]:List ByteArray)),false)else(bif ((x0.1.length:Int) != (186:Int))then some (((0:Int),([]:List DQuota),([]:List DInode),([]:List ByteArray)),false)else iter k (impl_LoadFS_l1 k) ((),(),([]:List ByteArray),(x0.1.length:Int),(0:Int),((0:Int),([]:List DQuota),([]:List DInode),([]:List ByteArray)),x0)))
theorem impl_LoadFS_run(k:Nat)(x0:DDisk):c_impl_LoadFS (k+1) (x0)=impl_LoadFS k x0:=by kernel_rfl
def slices_Equal_impl_Quota_impl_Quota_l1(k:Nat)(self:_→Option Bool)(d:((List DQuota)×((List DQuota)×DQuota))):=
 (bif (decide (d.2.2.2<d.2.2.1))then(if 0≤d.2.2.2 then(d.1[d.2.2.2.toNat]?).bind fun v0=>
 (if 0≤d.2.2.2 then(d.2.1[d.2.2.2.toNat]?).bind fun v1=>
 (bif (!((v0.1==v1.1)&&(v0.2==v1.2)))then some false else self (d.1,d.2.1,d.2.2.1,(wrapK .i64 (d.2.2.2+(1:Int)))))else none)else none)else some true)
def slices_Equal_impl_Quota_impl_Quota(k:Nat)(x0:(List DQuota))(x1:(List DQuota)):Option Bool:=
 (bif ((x0.length:Int) != (x1.length:Int))then some false else iter k (slices_Equal_impl_Quota_impl_Quota_l1 k) (x0,x1,(x0.length:Int),(0:Int)))
theorem slices_Equal_impl_Quota_impl_Quota_run(k:Nat)(x0:(List DQuota))(x1:(List DQuota)):c_slices_Equal_impl_Quota_impl_Quota (k+1) (x0,x1)=slices_Equal_impl_Quota_impl_Quota k x0 x1:=by kernel_rfl
def slices_Equal_string_string_l1(k:Nat)(self:_→Option Bool)(d:((List ByteArray)×((List ByteArray)×DQuota))):=
 (bif (decide (d.2.2.2<d.2.2.1))then(if 0≤d.2.2.2 then(d.1[d.2.2.2.toNat]?).bind fun v0=>
 (if 0≤d.2.2.2 then(d.2.1[d.2.2.2.toNat]?).bind fun v1=>
 (bif (!(eqS v0 v1))then some false else self (d.1,d.2.1,d.2.2.1,(wrapK .i64 (d.2.2.2+(1:Int)))))else none)else none)else some true)
def slices_Equal_string_string(k:Nat)(x0:(List ByteArray))(x1:(List ByteArray)):Option Bool:=
 (bif ((x0.length:Int) != (x1.length:Int))then some false else iter k (slices_Equal_string_string_l1 k) (x0,x1,(x0.length:Int),(0:Int)))
theorem slices_Equal_string_string_run(k:Nat)(x0:(List ByteArray))(x1:(List ByteArray)):c_slices_Equal_string_string (k+1) (x0,x1)=slices_Equal_string_string k x0 x1:=by kernel_rfl
def impl_SameFS_l1(k:Nat)(self:_→Option Bool)(d:((List DInode)×(Unit×((List DInode)×(Int×(Int×(DFS×DFS))))))):=
 let e0:=d.2.2.2.2
 (bif (decide (e0.1<d.2.2.2.1))then(if 0≤e0.1 then(d.2.2.1[e0.1.toNat]?).bind fun v0=>
 (if 0≤e0.1 then(d.1[e0.1.toNat]?).bind fun v1=>
 (c_impl_SameInode k (v0,v1)).bind fun v2=>
 (bif (!v2)then some false else self (d.1,(),d.2.2.1,d.2.2.2.1,(wrapK .i64 (e0.1+(1:Int))),e0.2.1,e0.2.2))else none)else none)else(c_slices_Equal_string_string k (e0.2.2.2.2.2,e0.2.1.2.2.2)).bind fun v3=>
 some v3)
def impl_SameFS(k:Nat)(x0:DFS)(x1:DFS):Option Bool:=
 (bif (x0.1==x1.1)then(c_slices_Equal_impl_Quota_impl_Quota k (x0.2.1,x1.2.1)).bind fun y1=>
 (bif y1 then(bif ((x0.2.2.1.length:Int) != (x1.2.2.1.length:Int))then some false else iter k (impl_SameFS_l1 k) (x1.2.2.1,(),x0.2.2.1,(x0.2.2.1.length:Int),(0:Int),x1,x0))else some false)else some false)
theorem impl_SameFS_run(k:Nat)(x0:DFS)(x1:DFS):c_impl_SameFS (k+1) (x0,x1)=impl_SameFS k x0 x1:=by kernel_rfl
def impl_IsMachine(k:Nat)(x0:DMachine):Option Bool:=
 (c_impl_IsSystem k x0.2.2).bind fun y1=>
 (bif (!y1)then some false else(bif (decide (x0.2.1<(0:Int)))then some false else(bif (decide ((1000000000:Int)<x0.2.1))then some false else(c_impl_IsDisk k x0.1).bind fun y2=>
 (bif (!y2)then some false else(bif (decide ((0:Int)<(x0.1.2.length:Int)))then some false else(c_impl_ReadJournal k x0.1).bind fun y3=>
 (bif y3.2.2 then some false else(c_impl_LoadFS k x0.1).bind fun y4=>
 (bif y4.2 then(c_impl_SameFS k (y4.1,x0.2.2.1)).bind fun y5=>
 some y5 else some false)))))))
theorem impl_IsMachine_run(k:Nat)(x0:DMachine):c_impl_IsMachine (k+1) (x0)=impl_IsMachine k x0:=by kernel_rfl
def laws_FnExactIsMachine(k:Nat)(x0:DMachine):Option Bool:=
 (c_laws_szMachine k (x0,(1048576:Int))).bind fun y1=>
 (bif (decide (y1<(0:Int)))then some true else(c_laws_toMachine k x0).bind fun y2=>
 (c_spec_IsMachine k y2).bind fun y3=>
 (c_laws_toMachine k x0).bind fun y4=>
 (c_impl_IsMachine k y4).bind fun y5=>
 (bif (y5 != y3)then some false else(c_laws_toMachine k x0).bind fun y6=>
 (c_laws_eqMachine k (y4,y6)).bind fun y7=>
 (bif (!y7)then some false else some true)))
theorem laws_FnExactIsMachine_run(k:Nat)(x0:DMachine):c_laws_FnExactIsMachine (k+1) (x0)=laws_FnExactIsMachine k x0:=by kernel_rfl
end
end Go.Proofs.YtmmgfgfkkpeedaaGreat
