/- The tables, the residual functions and lemmas of this seat: parts of the proof of the law; conditions: those that each names. -/
import Derived.Test.YtmmgfgfkkpeedaaGreatRes
set_option maxRecDepth 1000000
set_option maxHeartbeats 0
set_option linter.unusedVariables false
namespace Go.Proofs.YtmmgfgfkkpeedaaGreat
open Go.Eng
noncomputable section
def e_slices_Clone_impl_Quota_impl_Quota:Nat→(List DQuota)→Option (List DQuota)
 |0,_=>none
 |_+1,x=>ext_slices_Clone_impl_Quota_impl_Quota x
theorem e_slices_Clone_impl_Quota_impl_Quota_ok:c_slices_Clone_impl_Quota_impl_Quota=e_slices_Clone_impl_Quota_impl_Quota:=by
 funext k x
 cases k with
 |zero=>rfl
 |succ k=>exact c_slices_Clone_impl_Quota_impl_Quota_run k x
def e_slices_Repeat_string_string:Nat→((List ByteArray)×Int)→Option (List ByteArray)
 |0,_=>none
 |_+1,x=>ext_slices_Repeat_string_string x
theorem e_slices_Repeat_string_string_ok:c_slices_Repeat_string_string=e_slices_Repeat_string_string:=by
 funext k x
 cases k with
 |zero=>rfl
 |succ k=>exact c_slices_Repeat_string_string_run k x
def e_slices_Clone_int_int:Nat→(List Int)→Option (List Int)
 |0,_=>none
 |_+1,x=>ext_slices_Clone_int_int x
theorem e_slices_Clone_int_int_ok:c_slices_Clone_int_int=e_slices_Clone_int_int:=by
 funext k x
 cases k with
 |zero=>rfl
 |succ k=>exact c_slices_Clone_int_int_run k x
def e_slices_Clone_string_string:Nat→(List ByteArray)→Option (List ByteArray)
 |0,_=>none
 |_+1,x=>ext_slices_Clone_string_string x
theorem e_slices_Clone_string_string_ok:c_slices_Clone_string_string=e_slices_Clone_string_string:=by
 funext k x
 cases k with
 |zero=>rfl
 |succ k=>exact c_slices_Clone_string_string_run k x
def e_strings_Repeat:Nat→DerrorAddressString→Option ByteArray
 |0,_=>none
 |_+1,x=>ext_strings_Repeat x
theorem e_strings_Repeat_ok:c_strings_Repeat=e_strings_Repeat:=by
 funext k x
 cases k with
 |zero=>rfl
 |succ k=>exact c_strings_Repeat_run k x
def e_slices_Clone_impl_AclEntry_impl_AclEntry:Nat→(List DOpen)→Option (List DOpen)
 |0,_=>none
 |_+1,x=>ext_slices_Clone_impl_AclEntry_impl_AclEntry x
theorem e_slices_Clone_impl_AclEntry_impl_AclEntry_ok:c_slices_Clone_impl_AclEntry_impl_AclEntry=e_slices_Clone_impl_AclEntry_impl_AclEntry:=by
 funext k x
 cases k with
 |zero=>rfl
 |succ k=>exact c_slices_Clone_impl_AclEntry_impl_AclEntry_run k x
def q_spec_l01In(k:Nat)(x0:Int)(x1:Int)(x2:Int):Option Bool:=
 (bif (decide (x1≤x0))then some (decide (x0≤x2))else some false)
theorem q_spec_l01In_ok: @spec_l01In= @q_spec_l01In:=by
 funext k x0 x1 x2
 rfl
def e_spec_l01In:Nat→DOpen→Option Bool
 |0,_=>none
 |k+1,(x0,x1,x2)=>q_spec_l01In k x0 x1 x2
theorem e_spec_l01In_ok:c_spec_l01In=e_spec_l01In:=by
 funext k x
 cases k with
 |zero=>rfl
 |succ k=>exact(spec_l01In_run k x.1 x.2.1 x.2.2).trans (congrFun (congrFun (congrFun (congrFun q_spec_l01In_ok k) (x.1)) (x.2.1)) (x.2.2))
def q_spec_l02Has_l1(k:Nat)(self:_→Option Bool)(d:(Int×((List Int)×DQuota))):=
 (bif (decide (d.2.2.2<d.2.2.1))then(if 0≤d.2.2.2 then(d.2.1[d.2.2.2.toNat]?).bind fun v0=>
 (bif (v0==d.1)then some true else self (d.1,d.2.1,d.2.2.1,(wrapK .i64 (d.2.2.2+(1:Int)))))else none)else some false)
theorem q_spec_l02Has_l1_ok: @spec_l02Has_l1= @q_spec_l02Has_l1:=by
 funext k self d
 rfl
def q_spec_l02Has(k:Nat)(x0:(List Int))(x1:Int):Option Bool:=
 iter k (q_spec_l02Has_l1 k) (x1,x0,(x0.length:Int),(0:Int))
theorem q_spec_l02Has_ok: @spec_l02Has= @q_spec_l02Has:=by
 funext k x0 x1
 simp only[spec_l02Has,q_spec_l02Has,q_spec_l02Has_l1_ok]
def e_spec_l02Has:Nat→((List Int)×Int)→Option Bool
 |0,_=>none
 |k+1,(x0,x1)=>q_spec_l02Has k x0 x1
theorem e_spec_l02Has_ok:c_spec_l02Has=e_spec_l02Has:=by
 funext k x
 cases k with
 |zero=>rfl
 |succ k=>exact(spec_l02Has_run k x.1 x.2).trans (congrFun (congrFun (congrFun q_spec_l02Has_ok k) (x.1)) (x.2))
def q_spec_l02Same_l1(k:Nat)(self:_→Option Bool)(d:((List Int)×((List Int)×DQuota))):=
 (bif (decide (d.2.2.2<d.2.2.1))then(if 0≤d.2.2.2 then(d.2.1[d.2.2.2.toNat]?).bind fun v0=>
 (if 0≤d.2.2.2 then(d.1[d.2.2.2.toNat]?).bind fun v1=>
 (bif (v0 != v1)then some false else self (d.1,d.2.1,d.2.2.1,(wrapK .i64 (d.2.2.2+(1:Int)))))else none)else none)else some true)
theorem q_spec_l02Same_l1_ok: @spec_l02Same_l1= @q_spec_l02Same_l1:=by
 funext k self d
 rfl
def q_spec_l02Same(k:Nat)(x0:(List Int))(x1:(List Int)):Option Bool:=
 (bif ((x0.length:Int) != (x1.length:Int))then some false else iter k (q_spec_l02Same_l1 k) (x1,x0,(x0.length:Int),(0:Int)))
theorem q_spec_l02Same_ok: @spec_l02Same= @q_spec_l02Same:=by
 funext k x0 x1
 simp only[spec_l02Same,q_spec_l02Same,q_spec_l02Same_l1_ok]
def e_spec_l02Same:Nat→((List Int)×(List Int))→Option Bool
 |0,_=>none
 |k+1,(x0,x1)=>q_spec_l02Same k x0 x1
theorem e_spec_l02Same_ok:c_spec_l02Same=e_spec_l02Same:=by
 funext k x
 cases k with
 |zero=>rfl
 |succ k=>exact(spec_l02Same_run k x.1 x.2).trans (congrFun (congrFun (congrFun q_spec_l02Same_ok k) (x.1)) (x.2))
def q_spec_l05Same_l1(k:Nat)(self:_→Option Bool)(d:((List DOpen)×((List DOpen)×DQuota))):=
 (bif (decide (d.2.2.2<d.2.2.1))then(if 0≤d.2.2.2 then(d.2.1[d.2.2.2.toNat]?).bind fun v0=>
 (if 0≤d.2.2.2 then(d.1[d.2.2.2.toNat]?).bind fun v1=>
 (bif (!((v0.1==v1.1)&&((v0.2.1==v1.2.1)&&(v0.2.2==v1.2.2))))then some false else self (d.1,d.2.1,d.2.2.1,(wrapK .i64 (d.2.2.2+(1:Int)))))else none)else none)else some true)
theorem q_spec_l05Same_l1_ok: @spec_l05Same_l1= @q_spec_l05Same_l1:=by
 funext k self d
 rfl
def q_spec_l05Same(k:Nat)(x0:(List DOpen))(x1:(List DOpen)):Option Bool:=
 (bif ((x0.length:Int) != (x1.length:Int))then some false else iter k (q_spec_l05Same_l1 k) (x1,x0,(x0.length:Int),(0:Int)))
theorem q_spec_l05Same_ok: @spec_l05Same= @q_spec_l05Same:=by
 funext k x0 x1
 simp only[spec_l05Same,q_spec_l05Same,q_spec_l05Same_l1_ok]
def e_spec_l05Same:Nat→((List DOpen)×(List DOpen))→Option Bool
 |0,_=>none
 |k+1,(x0,x1)=>q_spec_l05Same k x0 x1
theorem e_spec_l05Same_ok:c_spec_l05Same=e_spec_l05Same:=by
 funext k x
 cases k with
 |zero=>rfl
 |succ k=>exact(spec_l05Same_run k x.1 x.2).trans (congrFun (congrFun (congrFun q_spec_l05Same_ok k) (x.1)) (x.2))
def q_spec_SameInode(k:Nat)(x0:DInode)(x1:DInode):Option Bool:=
 (bif (x0.1 != x1.1)then some false else(bif (x0.2.1 != x1.2.1)then some false else(bif (x0.2.2.1 != x1.2.2.1)then some false else(bif (x0.2.2.2.1 != x1.2.2.2.1)then some false else(bif (x0.2.2.2.2.1 != x1.2.2.2.2.1)then some false else(bif (x0.2.2.2.2.2.1 != x1.2.2.2.2.2.1)then some false else(bif (x0.2.2.2.2.2.2.1 != x1.2.2.2.2.2.2.1)then some false else(e_spec_l02Same k (x0.2.2.2.2.2.2.2.1,x1.2.2.2.2.2.2.2.1)).bind fun y1=>
 (bif y1 then(e_spec_l05Same k (x0.2.2.2.2.2.2.2.2.1,x1.2.2.2.2.2.2.2.2.1)).bind fun y2=>
 (bif y2 then(e_spec_l05Same k (x0.2.2.2.2.2.2.2.2.2,x1.2.2.2.2.2.2.2.2.2)).bind fun y3=>
 some y3 else some false)else some false))))))))
theorem q_spec_SameInode_ok: @spec_SameInode= @q_spec_SameInode:=by
 funext k x0 x1
 simp only[spec_SameInode,q_spec_SameInode,e_spec_l02Same_ok,e_spec_l05Same_ok]
def e_spec_SameInode:Nat→(DInode×DInode)→Option Bool
 |0,_=>none
 |k+1,(x0,x1)=>q_spec_SameInode k x0 x1
theorem e_spec_SameInode_ok:c_spec_SameInode=e_spec_SameInode:=by
 funext k x
 cases k with
 |zero=>rfl
 |succ k=>exact(spec_SameInode_run k x.1 x.2).trans (congrFun (congrFun (congrFun q_spec_SameInode_ok k) (x.1)) (x.2))
def q_spec_l06User(k:Nat)(x0:Int):Option Bool:=
 (e_spec_l01In k (x0,(0:Int),(3:Int))).bind fun y1=>
 some y1
theorem q_spec_l06User_ok: @spec_l06User= @q_spec_l06User:=by
 funext k x0
 simp only[spec_l06User,q_spec_l06User,e_spec_l01In_ok]
def e_spec_l06User:Nat→Int→Option Bool
 |0,_=>none
 |k+1,x0=>q_spec_l06User k x0
theorem e_spec_l06User_ok:c_spec_l06User=e_spec_l06User:=by
 funext k x
 cases k with
 |zero=>rfl
 |succ k=>exact(spec_l06User_run k x).trans (congrFun (congrFun q_spec_l06User_ok k) (x))
def q_spec_l06Mode(k:Nat)(x0:Int):Option Bool:=
 (e_spec_l01In k (x0,(0:Int),(2047:Int))).bind fun y1=>
 some y1
theorem q_spec_l06Mode_ok: @spec_l06Mode= @q_spec_l06Mode:=by
 funext k x0
 simp only[spec_l06Mode,q_spec_l06Mode,e_spec_l01In_ok]
def e_spec_l06Mode:Nat→Int→Option Bool
 |0,_=>none
 |k+1,x0=>q_spec_l06Mode k x0
theorem e_spec_l06Mode_ok:c_spec_l06Mode=e_spec_l06Mode:=by
 funext k x
 cases k with
 |zero=>rfl
 |succ k=>exact(spec_l06Mode_run k x).trans (congrFun (congrFun q_spec_l06Mode_ok k) (x))
def q_spec_BlocksNeeded(k:Nat)(x0:Int):Option Int:=
 (bif (decide (x0≤(0:Int)))then some (0:Int)else(if((32:Int):Int)≠0 then some (wrapK .i64 ((wrapK .i64 ((wrapK .i64 (x0-(1:Int))).tdiv (32:Int)))+(1:Int)))else none))
theorem q_spec_BlocksNeeded_ok: @spec_BlocksNeeded= @q_spec_BlocksNeeded:=by
 funext k x0
 rfl
def e_spec_BlocksNeeded:Nat→Int→Option Int
 |0,_=>none
 |k+1,x0=>q_spec_BlocksNeeded k x0
theorem e_spec_BlocksNeeded_ok:c_spec_BlocksNeeded=e_spec_BlocksNeeded:=by
 funext k x
 cases k with
 |zero=>rfl
 |succ k=>exact(spec_BlocksNeeded_run k x).trans (congrFun (congrFun q_spec_BlocksNeeded_ok k) (x))
def q_spec_l05Entry(k:Nat)(x0:DOpen):Option Bool:=
 (e_spec_l01In k (x0.2.2,(0:Int),(7:Int))).bind fun y1=>
 (bif (!y1)then some false else(bif (x0.1==(1:Int))then(bif (x0.1==(1:Int))then(e_spec_l01In k (x0.2.1,(0:Int),(3:Int))).bind fun y2=>
 some y2 else(bif (x0.1==(3:Int))then some (x0.2.1==(0:Int))else some false))else(bif (x0.1==(2:Int))then(e_spec_l01In k (x0.2.1,(0:Int),(3:Int))).bind fun y3=>
 some y3 else(bif (x0.1==(3:Int))then some (x0.2.1==(0:Int))else some false))))
theorem q_spec_l05Entry_ok: @spec_l05Entry= @q_spec_l05Entry:=by
 funext k x0
 simp only[spec_l05Entry,q_spec_l05Entry,e_spec_l01In_ok]
def e_spec_l05Entry:Nat→DOpen→Option Bool
 |0,_=>none
 |k+1,x0=>q_spec_l05Entry k x0
theorem e_spec_l05Entry_ok:c_spec_l05Entry=e_spec_l05Entry:=by
 funext k x
 cases k with
 |zero=>rfl
 |succ k=>exact(spec_l05Entry_run k x).trans (congrFun (congrFun q_spec_l05Entry_ok k) (x))
def q_spec_IsAcl_l1(k:Nat)(self:_→Option Bool)(d:((List DOpen)×((List DOpen)×DQuota))):=
 (bif (decide (d.2.2.2<d.2.2.1))then(if 0≤d.2.2.2 then(d.2.1[d.2.2.2.toNat]?).bind fun v0=>
 (e_spec_l05Entry k v0).bind fun v1=>
 (bif (!v1)then some false else(bif (decide ((0:Int)<d.2.2.2))then(if 0≤(wrapK .i64 (d.2.2.2-(1:Int)))then(d.1[(wrapK .i64 (d.2.2.2-(1:Int))).toNat]?).bind fun v2=>
 (bif (decide (v0.1<v2.1))then some false else(if 0≤(wrapK .i64 (d.2.2.2-(1:Int)))then(d.1[(wrapK .i64 (d.2.2.2-(1:Int))).toNat]?).bind fun v3=>
 (bif (v3.1==v0.1)then(if 0≤(wrapK .i64 (d.2.2.2-(1:Int)))then(d.1[(wrapK .i64 (d.2.2.2-(1:Int))).toNat]?).bind fun v4=>
 (bif (decide (v0.2.1≤v4.2.1))then some false else self (d.1,d.2.1,d.2.2.1,(wrapK .i64 (d.2.2.2+(1:Int)))))else none)else self (d.1,d.2.1,d.2.2.1,(wrapK .i64 (d.2.2.2+(1:Int)))))else none))else none)else self (d.1,d.2.1,d.2.2.1,(wrapK .i64 (d.2.2.2+(1:Int))))))else none)else(bif ((d.1.length:Int)==(0:Int))then some true else(bif (decide ((d.1.length:Int)≤(6:Int)))then(if 0≤(wrapK .i64 ((d.1.length:Int)-(1:Int)))then(d.1[(wrapK .i64 ((d.1.length:Int)-(1:Int))).toNat]?).bind fun v5=>
 some (v5.1==(3:Int))else none)else some false)))
theorem q_spec_IsAcl_l1_ok: @spec_IsAcl_l1= @q_spec_IsAcl_l1:=by
 funext k self d
 simp only[spec_IsAcl_l1,q_spec_IsAcl_l1,e_spec_l05Entry_ok]
def q_spec_IsAcl(k:Nat)(x0:(List DOpen)):Option Bool:=
 iter k (q_spec_IsAcl_l1 k) (x0,x0,(x0.length:Int),(0:Int))
theorem q_spec_IsAcl_ok: @spec_IsAcl= @q_spec_IsAcl:=by
 funext k x0
 simp only[spec_IsAcl,q_spec_IsAcl,q_spec_IsAcl_l1_ok]
def e_spec_IsAcl:Nat→(List DOpen)→Option Bool
 |0,_=>none
 |k+1,x0=>q_spec_IsAcl k x0
theorem e_spec_IsAcl_ok:c_spec_IsAcl=e_spec_IsAcl:=by
 funext k x
 cases k with
 |zero=>rfl
 |succ k=>exact(spec_IsAcl_run k x).trans (congrFun (congrFun q_spec_IsAcl_ok k) (x))
def q_spec_IsInode_l1(k:Nat)(self:_→Option Bool)(d:(Unit×((List Int)×(Int×(Int×DInode))))):=
 let e0:=d.2.2.2.2
 (bif (decide (d.2.2.2.1<d.2.2.1))then(if 0≤d.2.2.2.1 then(d.2.1[d.2.2.2.1.toNat]?).bind fun v0=>
 (e_spec_l01In k (v0,(-1:Int),(999:Int))).bind fun v1=>
 (bif (!v1)then some false else(bif (v0 != (-1:Int))then(if 0≤d.2.2.2.1 then(if d.2.2.2.1≤(e0.2.2.2.2.2.2.2.1.length:Int)then(e_spec_l02Has k (((e0.2.2.2.2.2.2.2.1.take d.2.2.2.1.toNat).drop 0),v0)).bind fun v2=>
 (bif v2 then some false else self ((),d.2.1,d.2.2.1,(wrapK .i64 (d.2.2.2.1+(1:Int))),e0))else none)else none)else self ((),d.2.1,d.2.2.1,(wrapK .i64 (d.2.2.2.1+(1:Int))),e0)))else none)else(joinK (R:=Bool) ((bif (e0.1==(1:Int))then(bif (decide ((0:Int)<(e0.2.2.2.2.2.2.2.2.2.length:Int)))then((some false).map .inr)else(bif ((intBits .and .i64 e0.2.1 (512:Int)) != (0:Int))then((some false).map .inr)else some (.inl ((),e0))))else some (.inl ((),e0)))) fun(v3:(Unit×DInode))=>(e_spec_IsAcl k v3.2.2.2.2.2.2.2.2.2.1).bind fun v4=>
 (bif v4 then(e_spec_IsAcl k v3.2.2.2.2.2.2.2.2.2.2).bind fun v5=>
 some v5 else some false)))
theorem q_spec_IsInode_l1_ok: @spec_IsInode_l1= @q_spec_IsInode_l1:=by
 funext k self d
 simp only[spec_IsInode_l1,q_spec_IsInode_l1,e_spec_IsAcl_ok,e_spec_l01In_ok,e_spec_l02Has_ok]
def q_spec_IsInode(k:Nat)(x0:DInode):Option Bool:=
 (bif (x0.1==(0:Int))then(e_spec_SameInode k (x0,((0:Int),(0:Int),(0:Int),(0:Int),(0:Int),(0:Int),(0:Int),([]:List Int),([]:List DOpen),([]:List DOpen)))).bind fun y1=>
 some y1 else(joinK (R:=Bool) ((bif (x0.1 != (1:Int))then(bif (x0.1 != (2:Int))then((some false).map .inr)else(e_spec_l06Mode k x0.2.1).bind fun y3=>
 (bif (!y3)then((some false).map .inr)else(e_spec_l06User k x0.2.2.1).bind fun y4=>
 (bif (!y4)then((some false).map .inr)else(e_spec_l06User k x0.2.2.2.1).bind fun y5=>
 (bif (!y5)then((some false).map .inr)else(e_spec_l01In k (x0.2.2.2.2.1,(0:Int),(1000:Int))).bind fun y6=>
 (bif (!y6)then((some false).map .inr)else(e_spec_l01In k (x0.2.2.2.2.2.1,(0:Int),(256:Int))).bind fun y7=>
 (bif (!y7)then((some false).map .inr)else(e_spec_l01In k (x0.2.2.2.2.2.2.1,(0:Int),(1000000000:Int))).bind fun y8=>
 (bif (!y8)then((some false).map .inr)else(e_spec_BlocksNeeded k x0.2.2.2.2.2.1).bind fun y9=>
 (bif ((x0.2.2.2.2.2.2.2.1.length:Int) != y9)then((some false).map .inr)else some (.inl ((),x0))))))))))else(e_spec_l06Mode k x0.2.1).bind fun y10=>
 (bif (!y10)then((some false).map .inr)else(e_spec_l06User k x0.2.2.1).bind fun y11=>
 (bif (!y11)then((some false).map .inr)else(e_spec_l06User k x0.2.2.2.1).bind fun y12=>
 (bif (!y12)then((some false).map .inr)else(e_spec_l01In k (x0.2.2.2.2.1,(0:Int),(1000:Int))).bind fun y13=>
 (bif (!y13)then((some false).map .inr)else(e_spec_l01In k (x0.2.2.2.2.2.1,(0:Int),(256:Int))).bind fun y14=>
 (bif (!y14)then((some false).map .inr)else(e_spec_l01In k (x0.2.2.2.2.2.2.1,(0:Int),(1000000000:Int))).bind fun y15=>
 (bif (!y15)then((some false).map .inr)else(e_spec_BlocksNeeded k x0.2.2.2.2.2.1).bind fun y16=>
 (bif ((x0.2.2.2.2.2.2.2.1.length:Int) != y16)then((some false).map .inr)else some (.inl ((),x0))))))))))) fun(d2:(Unit×DInode))=>iter k (q_spec_IsInode_l1 k) ((),d2.2.2.2.2.2.2.2.2.1,(d2.2.2.2.2.2.2.2.2.1.length:Int),(0:Int),d2.2)))
theorem q_spec_IsInode_ok: @spec_IsInode= @q_spec_IsInode:=by
 funext k x0
 simp only[spec_IsInode,q_spec_IsInode,e_spec_BlocksNeeded_ok,e_spec_SameInode_ok,e_spec_l01In_ok,e_spec_l06Mode_ok,e_spec_l06User_ok,q_spec_IsInode_l1_ok]
def e_spec_IsInode:Nat→DInode→Option Bool
 |0,_=>none
 |k+1,x0=>q_spec_IsInode k x0
theorem e_spec_IsInode_ok:c_spec_IsInode=e_spec_IsInode:=by
 funext k x
 cases k with
 |zero=>rfl
 |succ k=>exact(spec_IsInode_run k x).trans (congrFun (congrFun q_spec_IsInode_ok k) (x))
def q_spec_BlockOwner(k:Nat)(x0:Int):Option Int:=
 (e_spec_l01In k (x0,(0:Int),(55:Int))).bind fun y1=>
 (bif (!y1)then some (-1:Int)else(if((14:Int):Int)≠0 then some (wrapK .i64 (x0.tdiv (14:Int)))else none))
theorem q_spec_BlockOwner_ok: @spec_BlockOwner= @q_spec_BlockOwner:=by
 funext k x0
 simp only[spec_BlockOwner,q_spec_BlockOwner,e_spec_l01In_ok]
def e_spec_BlockOwner:Nat→Int→Option Int
 |0,_=>none
 |k+1,x0=>q_spec_BlockOwner k x0
theorem e_spec_BlockOwner_ok:c_spec_BlockOwner=e_spec_BlockOwner:=by
 funext k x
 cases k with
 |zero=>rfl
 |succ k=>exact(spec_BlockOwner_run k x).trans (congrFun (congrFun q_spec_BlockOwner_ok k) (x))
def q_spec_l08Used_l1(k:Nat)(a0:_→Option ((List Bool)×Bool))(self:_→Option ((List Bool)×Bool))(d:((List Bool)×(Unit×((List DInode)×(Int×(Int×((List Int)×(Int×(Int×DInode))))))))):=
 let e0:=d.2.2.2.2
 (bif (decide (e0.2.2.2.1<e0.2.2.1))then(if 0≤e0.2.2.2.1 then(e0.2.1[e0.2.2.2.1.toNat]?).bind fun v0=>
 (bif (v0==(-1:Int))then self (d.1,(),d.2.2.1,d.2.2.2.1,e0.1,e0.2.1,e0.2.2.1,(wrapK .i64 (e0.2.2.2.1+(1:Int))),e0.2.2.2.2)else(e_spec_BlockOwner k v0).bind fun v1=>
 (bif (v1 != e0.2.2.2.2.2.2.1)then some (([]:List Bool),false)else(if 0≤v0 then(if v0<(d.1.length:Int)then(d.1[v0.toNat]?).bind fun v2=>
 (bif v2 then some (([]:List Bool),false)else(if 0≤v0 then(if v0<(d.1.length:Int)then(d.1[v0.toNat]?).bind fun v3=>
 self ((d.1.set v0.toNat true),(),d.2.2.1,d.2.2.2.1,e0.1,e0.2.1,e0.2.2.1,(wrapK .i64 (e0.2.2.2.1+(1:Int))),e0.2.2.2.2)else none)else none))else none)else none)))else none)else a0 (d.1,d.2.2.1,d.2.2.2.1,(wrapK .i64 (e0.1+(1:Int)))))
theorem q_spec_l08Used_l1_ok: @spec_l08Used_l1= @q_spec_l08Used_l1:=by
 funext k a0 self d
 simp only[spec_l08Used_l1,q_spec_l08Used_l1,e_spec_BlockOwner_ok]
def q_spec_l08Used_l2(k:Nat)(self:_→Option ((List Bool)×Bool))(d:((List Bool)×((List DInode)×DQuota))):=
 (bif (decide (d.2.2.2<d.2.2.1))then(if 0≤d.2.2.2 then(d.2.1[d.2.2.2.toNat]?).bind fun v0=>
 iter k (q_spec_l08Used_l1 k self) (d.1,(),d.2.1,d.2.2.1,d.2.2.2,v0.2.2.2.2.2.2.2.1,(v0.2.2.2.2.2.2.2.1.length:Int),(0:Int),v0)else none)else some (d.1,true))
theorem q_spec_l08Used_l2_ok: @spec_l08Used_l2= @q_spec_l08Used_l2:=by
 funext k self d
 simp only[spec_l08Used_l2,q_spec_l08Used_l2,q_spec_l08Used_l1_ok]
def q_spec_l08Used(k:Nat)(x0:DFS):Option ((List Bool)×Bool):=
 (if 0≤(56:Int)then(if(56:Int)≤(56:Int)then(if(56:Int)*1≤(capBytes:Int)then iter k (q_spec_l08Used_l2 k) ((List.replicate (56:Int).toNat false),x0.2.2.1,(x0.2.2.1.length:Int),(0:Int))else none)else none)else none)
theorem q_spec_l08Used_ok: @spec_l08Used= @q_spec_l08Used:=by
 funext k x0
 simp only[spec_l08Used,q_spec_l08Used,q_spec_l08Used_l2_ok]
def e_spec_l08Used:Nat→DFS→Option ((List Bool)×Bool)
 |0,_=>none
 |k+1,x0=>q_spec_l08Used k x0
theorem e_spec_l08Used_ok:c_spec_l08Used=e_spec_l08Used:=by
 funext k x
 cases k with
 |zero=>rfl
 |succ k=>exact(spec_l08Used_run k x).trans (congrFun (congrFun q_spec_l08Used_ok k) (x))
def q_spec_IsZeroes_l1(k:Nat)(self:_→Option Bool)(d:DerrorAddressString):=
 (bif (decide (d.2<(d.1.size:Int)))then(if 0≤d.2 then((d.1[d.2.toNat]?.map fun v0=>(v0.toNat:Int))).bind fun v1=>
 (bif (v1 != (0:Int))then some false else self (d.1,(wrapK .i64 (d.2+(1:Int)))))else none)else some true)
theorem q_spec_IsZeroes_l1_ok: @spec_IsZeroes_l1= @q_spec_IsZeroes_l1:=by
 funext k self d
 rfl
def q_spec_IsZeroes(k:Nat)(x0:ByteArray):Option Bool:=
 iter k (q_spec_IsZeroes_l1 k) (x0,(0:Int))
theorem q_spec_IsZeroes_ok: @spec_IsZeroes= @q_spec_IsZeroes:=by
 funext k x0
 simp only[spec_IsZeroes,q_spec_IsZeroes,q_spec_IsZeroes_l1_ok]
def e_spec_IsZeroes:Nat→ByteArray→Option Bool
 |0,_=>none
 |k+1,x0=>q_spec_IsZeroes k x0
theorem e_spec_IsZeroes_ok:c_spec_IsZeroes=e_spec_IsZeroes:=by
 funext k x
 cases k with
 |zero=>rfl
 |succ k=>exact(spec_IsZeroes_run k x).trans (congrFun (congrFun q_spec_IsZeroes_ok k) (x))
def q_spec_IsFS_l1(k:Nat)(self:_→Option Bool)(d:(Unit×((List DInode)×(Int×(Int×DFS))))):=
 let e0:=d.2.2.2.2
 (bif (decide (d.2.2.2.1<d.2.2.1))then(if 0≤d.2.2.2.1 then(d.2.1[d.2.2.2.1.toNat]?).bind fun v0=>
 (bif (decide ((0:Int)≤(wrapK .i64 ((v0.2.2.2.2.2.2.2.1.length:Int)-(1:Int)))))then(if 0≤(wrapK .i64 ((v0.2.2.2.2.2.2.2.1.length:Int)-(1:Int)))then(v0.2.2.2.2.2.2.2.1[(wrapK .i64 ((v0.2.2.2.2.2.2.2.1.length:Int)-(1:Int))).toNat]?).bind fun v1=>
 (bif (v1 != (-1:Int))then(if 0≤(wrapK .i64 ((v0.2.2.2.2.2.2.2.1.length:Int)-(1:Int)))then(v0.2.2.2.2.2.2.2.1[(wrapK .i64 ((v0.2.2.2.2.2.2.2.1.length:Int)-(1:Int))).toNat]?).bind fun v2=>
 (if 0≤v2 then(e0.2.2.2[v2.toNat]?).bind fun v3=>
 (if 0≤(wrapK .i64 (v0.2.2.2.2.2.1-(wrapK .i64 ((wrapK .i64 ((v0.2.2.2.2.2.2.2.1.length:Int)-(1:Int)))*(32:Int)))))then(if(wrapK .i64 (v0.2.2.2.2.2.1-(wrapK .i64 ((wrapK .i64 ((v0.2.2.2.2.2.2.2.1.length:Int)-(1:Int)))*(32:Int)))))≤(v3.size:Int)then(e_spec_IsZeroes k (v3.extract ((wrapK .i64 (v0.2.2.2.2.2.1-(wrapK .i64 ((wrapK .i64 ((v0.2.2.2.2.2.2.2.1.length:Int)-(1:Int)))*(32:Int))))).toNat) v3.size)).bind fun v4=>
 (bif (!v4)then some false else self ((),d.2.1,d.2.2.1,(wrapK .i64 (d.2.2.2.1+(1:Int))),e0))else none)else none)else none)else none)else self ((),d.2.1,d.2.2.1,(wrapK .i64 (d.2.2.2.1+(1:Int))),e0))else none)else self ((),d.2.1,d.2.2.1,(wrapK .i64 (d.2.2.2.1+(1:Int))),e0))else none)else some true)
theorem q_spec_IsFS_l1_ok: @spec_IsFS_l1= @q_spec_IsFS_l1:=by
 funext k self d
 simp only[spec_IsFS_l1,q_spec_IsFS_l1,e_spec_IsZeroes_ok]
def q_spec_IsFS_l2(k:Nat)(self:_→Option Bool)(d:(Unit×((List Bool)×((List ByteArray)×(Int×(Int×DFS)))))):=
 let e0:=d.2.2.2.2
 (bif (decide (e0.1<d.2.2.2.1))then(if 0≤e0.1 then(d.2.2.1[e0.1.toNat]?).bind fun v0=>
 (bif ((v0.size:Int) != (32:Int))then some false else(if 0≤e0.1 then(if e0.1<(d.2.1.length:Int)then(d.2.1[e0.1.toNat]?).bind fun v1=>
 (bif (!v1)then(e_spec_IsZeroes k v0).bind fun v2=>
 (bif (!v2)then some false else self ((),d.2.1,d.2.2.1,d.2.2.2.1,(wrapK .i64 (e0.1+(1:Int))),e0.2))else self ((),d.2.1,d.2.2.1,d.2.2.2.1,(wrapK .i64 (e0.1+(1:Int))),e0.2))else none)else none))else none)else iter k (q_spec_IsFS_l1 k) ((),e0.2.2.2.1,(e0.2.2.2.1.length:Int),(0:Int),e0.2))
theorem q_spec_IsFS_l2_ok: @spec_IsFS_l2= @q_spec_IsFS_l2:=by
 funext k self d
 simp only[spec_IsFS_l2,q_spec_IsFS_l2,e_spec_IsZeroes_ok,q_spec_IsFS_l1_ok]
def q_spec_IsFS_l3(k:Nat)(self:_→Option Bool)(d:(Unit×((List DInode)×(Int×(Int×DFS))))):=
 let e0:=d.2.2.2.2
 (bif (decide (d.2.2.2.1<d.2.2.1))then(if 0≤d.2.2.2.1 then(d.2.1[d.2.2.2.1.toNat]?).bind fun v0=>
 (e_spec_IsInode k v0).bind fun v1=>
 (bif (!v1)then some false else self ((),d.2.1,d.2.2.1,(wrapK .i64 (d.2.2.2.1+(1:Int))),e0))else none)else(if 0≤(0:Int)then(e0.2.2.1[(0:Int).toNat]?).bind fun v2=>
 (bif (v2.1 != (2:Int))then some false else(e_spec_l08Used k e0).bind fun v3=>
 (bif (!v3.2)then some false else iter k (q_spec_IsFS_l2 k) ((),v3.1,e0.2.2.2,(e0.2.2.2.length:Int),(0:Int),e0)))else none))
theorem q_spec_IsFS_l3_ok: @spec_IsFS_l3= @q_spec_IsFS_l3:=by
 funext k self d
 simp only[spec_IsFS_l3,q_spec_IsFS_l3,e_spec_IsInode_ok,e_spec_l08Used_ok,q_spec_IsFS_l2_ok]
def q_spec_IsFS_l4(k:Nat)(self:_→Option Bool)(d:(Unit×((List DQuota)×(Int×(Int×DFS))))):=
 let e0:=d.2.2.2.2
 (bif (decide (d.2.2.2.1<d.2.2.1))then(if 0≤d.2.2.2.1 then(d.2.1[d.2.2.2.1.toNat]?).bind fun v0=>
 (e_spec_l01In k (v0.1,(0:Int),(5:Int))).bind fun v1=>
 (bif (!v1)then some false else(e_spec_l01In k (v0.2,(0:Int),(14:Int))).bind fun v2=>
 (bif (!v2)then some false else self ((),d.2.1,d.2.2.1,(wrapK .i64 (d.2.2.2.1+(1:Int))),e0)))else none)else iter k (q_spec_IsFS_l3 k) ((),e0.2.2.1,(e0.2.2.1.length:Int),(0:Int),e0))
theorem q_spec_IsFS_l4_ok: @spec_IsFS_l4= @q_spec_IsFS_l4:=by
 funext k self d
 simp only[spec_IsFS_l4,q_spec_IsFS_l4,e_spec_l01In_ok,q_spec_IsFS_l3_ok]
def q_spec_IsFS(k:Nat)(x0:DFS):Option Bool:=
 (e_spec_l01In k (x0.1,(0:Int),(1000000000:Int))).bind fun y1=>
 (bif (!y1)then some false else(bif ((x0.2.1.length:Int) != (4:Int))then some false else(bif ((x0.2.2.1.length:Int) != (20:Int))then some false else(bif ((x0.2.2.2.length:Int) != (56:Int))then some false else iter k (q_spec_IsFS_l4 k) ((),x0.2.1,(x0.2.1.length:Int),(0:Int),x0)))))
theorem q_spec_IsFS_ok: @spec_IsFS= @q_spec_IsFS:=by
 funext k x0
 simp only[spec_IsFS,q_spec_IsFS,e_spec_l01In_ok,q_spec_IsFS_l4_ok]
def e_spec_IsFS:Nat→DFS→Option Bool
 |0,_=>none
 |k+1,x0=>q_spec_IsFS k x0
theorem e_spec_IsFS_ok:c_spec_IsFS=e_spec_IsFS:=by
 funext k x
 cases k with
 |zero=>rfl
 |succ k=>exact(spec_IsFS_run k x).trans (congrFun (congrFun q_spec_IsFS_ok k) (x))
def q_spec_IsCred_l1(k:Nat)(self:_→Option Bool)(d:(Unit×((List Int)×(Int×(Int×DCred))))):=
 let e0:=d.2.2.2.2
 (bif (decide (d.2.2.2.1<d.2.2.1))then(if 0≤d.2.2.2.1 then(d.2.1[d.2.2.2.1.toNat]?).bind fun v0=>
 (e_spec_l06User k v0).bind fun v1=>
 (bif (!v1)then some false else(bif (decide ((0:Int)<d.2.2.2.1))then(if 0≤(wrapK .i64 (d.2.2.2.1-(1:Int)))then(e0.2.2[(wrapK .i64 (d.2.2.2.1-(1:Int))).toNat]?).bind fun v2=>
 (bif (decide (v0≤v2))then some false else self ((),d.2.1,d.2.2.1,(wrapK .i64 (d.2.2.2.1+(1:Int))),e0))else none)else self ((),d.2.1,d.2.2.1,(wrapK .i64 (d.2.2.2.1+(1:Int))),e0)))else none)else(e_spec_l06User k e0.1).bind fun v3=>
 (bif v3 then(e_spec_l06User k e0.2.1).bind fun v4=>
 some v4 else some false))
theorem q_spec_IsCred_l1_ok: @spec_IsCred_l1= @q_spec_IsCred_l1:=by
 funext k self d
 simp only[spec_IsCred_l1,q_spec_IsCred_l1,e_spec_l06User_ok]
def q_spec_IsCred(k:Nat)(x0:DCred):Option Bool:=
 iter k (q_spec_IsCred_l1 k) ((),x0.2.2,(x0.2.2.length:Int),(0:Int),x0)
theorem q_spec_IsCred_ok: @spec_IsCred= @q_spec_IsCred:=by
 funext k x0
 simp only[spec_IsCred,q_spec_IsCred,q_spec_IsCred_l1_ok]
def e_spec_IsCred:Nat→DCred→Option Bool
 |0,_=>none
 |k+1,x0=>q_spec_IsCred k x0
theorem e_spec_IsCred_ok:c_spec_IsCred=e_spec_IsCred:=by
 funext k x
 cases k with
 |zero=>rfl
 |succ k=>exact(spec_IsCred_run k x).trans (congrFun (congrFun q_spec_IsCred_ok k) (x))
def q_spec_l16Open(k:Nat)(x0:DFS)(x1:DOpen):Option Bool:=
 (bif (x1.2.2==(0:Int))then some ((x1.1==(0:Int))&&((x1.2.1==(0:Int))&&(x1.2.2==(0:Int))))else(e_spec_l01In k (x1.2.2,(1:Int),(63:Int))).bind fun y1=>
 (bif y1 then(bif ((intBits .and .i64 x1.2.2 (6:Int)) != (0:Int))then(e_spec_l01In k (x1.1,(0:Int),(19:Int))).bind fun y2=>
 (bif y2 then(if 0≤x1.1 then(x0.2.2.1[x1.1.toNat]?).bind fun y3=>
 (bif (y3.1==(1:Int))then(e_spec_l01In k (x1.2.1,(0:Int),(1000000:Int))).bind fun y4=>
 some y4 else some false)else none)else some false)else some false)else some false))
theorem q_spec_l16Open_ok: @spec_l16Open= @q_spec_l16Open:=by
 funext k x0 x1
 simp only[spec_l16Open,q_spec_l16Open,e_spec_l01In_ok]
def e_spec_l16Open:Nat→(DFS×DOpen)→Option Bool
 |0,_=>none
 |k+1,(x0,x1)=>q_spec_l16Open k x0 x1
theorem e_spec_l16Open_ok:c_spec_l16Open=e_spec_l16Open:=by
 funext k x
 cases k with
 |zero=>rfl
 |succ k=>exact(spec_l16Open_run k x.1 x.2).trans (congrFun (congrFun (congrFun q_spec_l16Open_ok k) (x.1)) (x.2))
def q_spec_l16Busy_l1(k:Nat)(a0:_→Option (List Int))(self:_→Option (List Int))(d:(Unit×((List Int)×(Int×(Bool×((List DProc)×(Int×(Int×((List DOpen)×(Int×(Int×DSystem))))))))))):=
 let e0:=d.2.2.2.2
 let e1:=e0.2.2.2.2
 (bif (decide (e1.2.1<e1.1))then(if 0≤e1.2.1 then(e0.2.2.2.1[e1.2.1.toNat]?).bind fun v0=>
 (bif d.2.2.2.1 then self ((),d.2.1,d.2.2.1,true,e0.1,e0.2.1,e0.2.2.1,e0.2.2.2.1,e1.1,(wrapK .i64 (e1.2.1+(1:Int))),e1.2.2)else(bif (v0.2.2 != (0:Int))then self ((),d.2.1,d.2.2.1,(v0.1==d.2.2.1),e0.1,e0.2.1,e0.2.2.1,e0.2.2.2.1,e1.1,(wrapK .i64 (e1.2.1+(1:Int))),e1.2.2)else self ((),d.2.1,d.2.2.1,false,e0.1,e0.2.1,e0.2.2.1,e0.2.2.2.1,e1.1,(wrapK .i64 (e1.2.1+(1:Int))),e1.2.2)))else none)else a0 ((),d.2.1,d.2.2.1,d.2.2.2.1,e0.1,e0.2.1,(wrapK .i64 (e0.2.2.1+(1:Int))),e1.2.2))
theorem q_spec_l16Busy_l1_ok: @spec_l16Busy_l1= @q_spec_l16Busy_l1:=by
 funext k a0 self d
 rfl
def q_spec_l16Busy_l2(k:Nat)(a0:_→Option (List Int))(self:_→Option (List Int))(d:(Unit×((List Int)×(Int×(Bool×((List DProc)×(Int×(Int×DSystem)))))))):=
 let e0:=d.2.2.2.2
 (bif (decide (e0.2.2.1<e0.2.1))then(if 0≤e0.2.2.1 then(e0.1[e0.2.2.1.toNat]?).bind fun v0=>
 iter k (q_spec_l16Busy_l1 k self) ((),d.2.1,d.2.2.1,d.2.2.2.1,e0.1,e0.2.1,e0.2.2.1,v0.2,(v0.2.length:Int),(0:Int),e0.2.2.2)else none)else(bif d.2.2.2.1 then(if(d.2.1.length+([d.2.2.1]:List Int).length)*8≤capBytes then a0 ((),(d.2.1++([d.2.2.1]:List Int)),(wrapK .i64 (d.2.2.1+(1:Int))),e0.2.2.2)else none)else a0 ((),d.2.1,(wrapK .i64 (d.2.2.1+(1:Int))),e0.2.2.2)))
theorem q_spec_l16Busy_l2_ok: @spec_l16Busy_l2= @q_spec_l16Busy_l2:=by
 funext k a0 self d
 simp only[spec_l16Busy_l2,q_spec_l16Busy_l2,q_spec_l16Busy_l1_ok]
def q_spec_l16Busy_l3(k:Nat)(self:_→Option (List Int))(d:(Unit×((List Int)×(Int×DSystem)))):=
 (bif (decide (d.2.2.1<(20:Int)))then iter k (q_spec_l16Busy_l2 k self) ((),d.2.1,d.2.2.1,false,d.2.2.2.2,(d.2.2.2.2.length:Int),(0:Int),d.2.2.2)else some d.2.1)
theorem q_spec_l16Busy_l3_ok: @spec_l16Busy_l3= @q_spec_l16Busy_l3:=by
 funext k self d
 simp only[spec_l16Busy_l3,q_spec_l16Busy_l3,q_spec_l16Busy_l2_ok]
def q_spec_l16Busy(k:Nat)(x0:DSystem):Option (List Int):=
 iter k (q_spec_l16Busy_l3 k) ((),([]:List Int),(0:Int),x0)
theorem q_spec_l16Busy_ok: @spec_l16Busy= @q_spec_l16Busy:=by
 funext k x0
 simp only[spec_l16Busy,q_spec_l16Busy,q_spec_l16Busy_l3_ok]
def e_spec_l16Busy:Nat→DSystem→Option (List Int)
 |0,_=>none
 |k+1,x0=>q_spec_l16Busy k x0
theorem e_spec_l16Busy_ok:c_spec_l16Busy=e_spec_l16Busy:=by
 funext k x
 cases k with
 |zero=>rfl
 |succ k=>exact(spec_l16Busy_run k x).trans (congrFun (congrFun q_spec_l16Busy_ok k) (x))
def q_spec_IsSystem_l1(k:Nat)(a0:_→Option Bool)(self:_→Option Bool)(d:(Unit×((List DProc)×(Int×(Int×((List DOpen)×(Int×(Int×DSystem)))))))):=
 let e0:=d.2.2.2.2
 (bif (decide (e0.2.2.1<e0.2.1))then(if 0≤e0.2.2.1 then(e0.1[e0.2.2.1.toNat]?).bind fun v0=>
 (e_spec_l16Open k (e0.2.2.2.1,v0)).bind fun v1=>
 (bif (!v1)then some false else self ((),d.2.1,d.2.2.1,d.2.2.2.1,e0.1,e0.2.1,(wrapK .i64 (e0.2.2.1+(1:Int))),e0.2.2.2))else none)else a0 ((),d.2.1,d.2.2.1,(wrapK .i64 (d.2.2.2.1+(1:Int))),e0.2.2.2))
theorem q_spec_IsSystem_l1_ok: @spec_IsSystem_l1= @q_spec_IsSystem_l1:=by
 funext k a0 self d
 simp only[spec_IsSystem_l1,q_spec_IsSystem_l1,e_spec_l16Open_ok]
def q_spec_IsSystem_l2(k:Nat)(self:_→Option Bool)(d:((List Int)×((List DInode)×DQuota))):=
 (bif (decide (d.2.2.2<d.2.2.1))then(if 0≤d.2.2.2 then(d.2.1[d.2.2.2.toNat]?).bind fun v0=>
 (bif (v0.1==(1:Int))then(bif (v0.2.2.2.2.1==(0:Int))then(e_spec_l02Has k (d.1,d.2.2.2)).bind fun v1=>
 (bif (!v1)then some false else self (d.1,d.2.1,d.2.2.1,(wrapK .i64 (d.2.2.2+(1:Int)))))else self (d.1,d.2.1,d.2.2.1,(wrapK .i64 (d.2.2.2+(1:Int)))))else self (d.1,d.2.1,d.2.2.1,(wrapK .i64 (d.2.2.2+(1:Int)))))else none)else some true)
theorem q_spec_IsSystem_l2_ok: @spec_IsSystem_l2= @q_spec_IsSystem_l2:=by
 funext k self d
 simp only[spec_IsSystem_l2,q_spec_IsSystem_l2,e_spec_l02Has_ok]
def q_spec_IsSystem_l3(k:Nat)(self:_→Option Bool)(d:(Unit×((List DProc)×(Int×(Int×DSystem))))):=
 let e0:=d.2.2.2.2
 (bif (decide (d.2.2.2.1<d.2.2.1))then(if 0≤d.2.2.2.1 then(d.2.1[d.2.2.2.1.toNat]?).bind fun v0=>
 (e_spec_IsCred k v0.1).bind fun v1=>
 (bif (!v1)then some false else(bif ((v0.2.length:Int) != (3:Int))then some false else iter k (q_spec_IsSystem_l1 k self) ((),d.2.1,d.2.2.1,d.2.2.2.1,v0.2,(v0.2.length:Int),(0:Int),e0)))else none)else(e_spec_l16Busy k e0).bind fun v2=>
 iter k (q_spec_IsSystem_l2 k) (v2,e0.1.2.2.1,(e0.1.2.2.1.length:Int),(0:Int)))
theorem q_spec_IsSystem_l3_ok: @spec_IsSystem_l3= @q_spec_IsSystem_l3:=by
 funext k self d
 simp only[spec_IsSystem_l3,q_spec_IsSystem_l3,e_spec_IsCred_ok,e_spec_l16Busy_ok,q_spec_IsSystem_l1_ok,q_spec_IsSystem_l2_ok]
def q_spec_IsSystem(k:Nat)(x0:DSystem):Option Bool:=
 (e_spec_IsFS k x0.1).bind fun y1=>
 (bif (!y1)then some false else(bif ((x0.2.length:Int) != (4:Int))then some false else iter k (q_spec_IsSystem_l3 k) ((),x0.2,(x0.2.length:Int),(0:Int),x0)))
theorem q_spec_IsSystem_ok: @spec_IsSystem= @q_spec_IsSystem:=by
 funext k x0
 simp only[spec_IsSystem,q_spec_IsSystem,e_spec_IsFS_ok,q_spec_IsSystem_l3_ok]
def e_spec_IsSystem:Nat→DSystem→Option Bool
 |0,_=>none
 |k+1,x0=>q_spec_IsSystem k x0
theorem e_spec_IsSystem_ok:c_spec_IsSystem=e_spec_IsSystem:=by
 funext k x
 cases k with
 |zero=>rfl
 |succ k=>exact(spec_IsSystem_run k x).trans (congrFun (congrFun q_spec_IsSystem_ok k) (x))
def q_spec_l05Copy(k:Nat)(x0:(List DOpen)):Option (List DOpen):=
 (if(([]:List DOpen).length+x0.length)*24≤capBytes then some (([]:List DOpen)++x0)else none)
theorem q_spec_l05Copy_ok: @spec_l05Copy= @q_spec_l05Copy:=by
 funext k x0
 rfl
def e_spec_l05Copy:Nat→(List DOpen)→Option (List DOpen)
 |0,_=>none
 |k+1,x0=>q_spec_l05Copy k x0
theorem e_spec_l05Copy_ok:c_spec_l05Copy=e_spec_l05Copy:=by
 funext k x
 cases k with
 |zero=>rfl
 |succ k=>exact(spec_l05Copy_run k x).trans (congrFun (congrFun q_spec_l05Copy_ok k) (x))
def q_spec_l07Copy(k:Nat)(x0:DInode):Option DInode:=
 (if(([]:List Int).length+x0.2.2.2.2.2.2.2.1.length)*8≤capBytes then(e_spec_l05Copy k x0.2.2.2.2.2.2.2.2.1).bind fun y1=>
 (e_spec_l05Copy k x0.2.2.2.2.2.2.2.2.2).bind fun y2=>
 some (x0.1,x0.2.1,x0.2.2.1,x0.2.2.2.1,x0.2.2.2.2.1,x0.2.2.2.2.2.1,x0.2.2.2.2.2.2.1,(([]:List Int)++x0.2.2.2.2.2.2.2.1),y1,y2)else none)
theorem q_spec_l07Copy_ok: @spec_l07Copy= @q_spec_l07Copy:=by
 funext k x0
 simp only[spec_l07Copy,q_spec_l07Copy,e_spec_l05Copy_ok]
def e_spec_l07Copy:Nat→DInode→Option DInode
 |0,_=>none
 |k+1,x0=>q_spec_l07Copy k x0
theorem e_spec_l07Copy_ok:c_spec_l07Copy=e_spec_l07Copy:=by
 funext k x
 cases k with
 |zero=>rfl
 |succ k=>exact(spec_l07Copy_run k x).trans (congrFun (congrFun q_spec_l07Copy_ok k) (x))
def q_spec_l08Copy_l1(k:Nat)(self:_→Option DFS)(d:(Unit×(Unit×((List DInode)×(Int×(Int×(DFS×DFS))))))):=
 let e0:=d.2.2.2.2
 (bif (decide (e0.1<d.2.2.2.1))then(if 0≤e0.1 then(d.2.2.1[e0.1.toNat]?).bind fun v0=>
 (e_spec_l07Copy k v0).bind fun v1=>
 (if(e0.2.1.2.2.1.length+([v1]:List DInode).length)*128≤capBytes then self ((),(),d.2.2.1,d.2.2.2.1,(wrapK .i64 (e0.1+(1:Int))),(e0.2.1.1,e0.2.1.2.1,(e0.2.1.2.2.1++([v1]:List DInode)),e0.2.1.2.2.2),e0.2.2)else none)else none)else some e0.2.1)
theorem q_spec_l08Copy_l1_ok: @spec_l08Copy_l1= @q_spec_l08Copy_l1:=by
 funext k self d
 simp only[spec_l08Copy_l1,q_spec_l08Copy_l1,e_spec_l07Copy_ok]
def q_spec_l08Copy(k:Nat)(x0:DFS):Option DFS:=
 (if(([]:List DQuota).length+x0.2.1.length)*16≤capBytes then(if(([]:List ByteArray).length+x0.2.2.2.length)*16≤capBytes then iter k (q_spec_l08Copy_l1 k) ((),(),x0.2.2.1,(x0.2.2.1.length:Int),(0:Int),(x0.1,(([]:List DQuota)++x0.2.1),([]:List DInode),(([]:List ByteArray)++x0.2.2.2)),((0:Int),([]:List DQuota),([]:List DInode),([]:List ByteArray)))else none)else none)
theorem q_spec_l08Copy_ok: @spec_l08Copy= @q_spec_l08Copy:=by
 funext k x0
 simp only[spec_l08Copy,q_spec_l08Copy,q_spec_l08Copy_l1_ok]
def e_spec_l08Copy:Nat→DFS→Option DFS
 |0,_=>none
 |k+1,x0=>q_spec_l08Copy k x0
theorem e_spec_l08Copy_ok:c_spec_l08Copy=e_spec_l08Copy:=by
 funext k x
 cases k with
 |zero=>rfl
 |succ k=>exact(spec_l08Copy_run k x).trans (congrFun (congrFun q_spec_l08Copy_ok k) (x))
def q_spec_OrphansOf_l1(k:Nat)(self:_→Option (List Int))(d:((List Int)×((List DInode)×DQuota))):=
 (bif (decide (d.2.2.2<d.2.2.1))then(if 0≤d.2.2.2 then(d.2.1[d.2.2.2.toNat]?).bind fun v0=>
 (bif (v0.1 != (0:Int))then(bif (v0.2.2.2.2.1==(0:Int))then(if(d.1.length+([d.2.2.2]:List Int).length)*8≤capBytes then self ((d.1++([d.2.2.2]:List Int)),d.2.1,d.2.2.1,(wrapK .i64 (d.2.2.2+(1:Int))))else none)else self (d.1,d.2.1,d.2.2.1,(wrapK .i64 (d.2.2.2+(1:Int)))))else self (d.1,d.2.1,d.2.2.1,(wrapK .i64 (d.2.2.2+(1:Int)))))else none)else some d.1)
theorem q_spec_OrphansOf_l1_ok: @spec_OrphansOf_l1= @q_spec_OrphansOf_l1:=by
 funext k self d
 rfl
def q_spec_OrphansOf(k:Nat)(x0:DFS):Option (List Int):=
 (e_spec_IsFS k x0).bind fun y1=>
 (bif (!y1)then some ([]:List Int)else iter k (q_spec_OrphansOf_l1 k) (([]:List Int),x0.2.2.1,(x0.2.2.1.length:Int),(0:Int)))
theorem q_spec_OrphansOf_ok: @spec_OrphansOf= @q_spec_OrphansOf:=by
 funext k x0
 simp only[spec_OrphansOf,q_spec_OrphansOf,e_spec_IsFS_ok,q_spec_OrphansOf_l1_ok]
def e_spec_OrphansOf:Nat→DFS→Option (List Int)
 |0,_=>none
 |k+1,x0=>q_spec_OrphansOf k x0
theorem e_spec_OrphansOf_ok:c_spec_OrphansOf=e_spec_OrphansOf:=by
 funext k x
 cases k with
 |zero=>rfl
 |succ k=>exact(spec_OrphansOf_run k x).trans (congrFun (congrFun q_spec_OrphansOf_ok k) (x))
def q_spec_PadTo_l1(k:Nat)(self:_→Option ByteArray)(d:(Int×(List Int))):=
 (bif (decide ((d.2.length:Int)<d.1))then(if(d.2.length+([(0:Int)]:List Int).length)*1≤capBytes then self (d.1,(d.2++([(0:Int)]:List Int)))else none)else some (ofBytes d.2))
theorem q_spec_PadTo_l1_ok: @spec_PadTo_l1= @q_spec_PadTo_l1:=by
 funext k self d
 rfl
def q_spec_PadTo(k:Nat)(x0:ByteArray)(x1:Int):Option ByteArray:=
 (bif (decide ((100000:Int)<x1))then some (⟨#[]⟩:ByteArray)else iter k (q_spec_PadTo_l1 k) (x1,(bytesOf x0)))
theorem q_spec_PadTo_ok: @spec_PadTo= @q_spec_PadTo:=by
 funext k x0 x1
 simp only[spec_PadTo,q_spec_PadTo,q_spec_PadTo_l1_ok]
def e_spec_PadTo:Nat→DerrorAddressString→Option ByteArray
 |0,_=>none
 |k+1,(x0,x1)=>q_spec_PadTo k x0 x1
theorem e_spec_PadTo_ok:c_spec_PadTo=e_spec_PadTo:=by
 funext k x
 cases k with
 |zero=>rfl
 |succ k=>exact(spec_PadTo_run k x.1 x.2).trans (congrFun (congrFun (congrFun q_spec_PadTo_ok k) (x.1)) (x.2))
def q_spec_l09Resize_l1(k:Nat)(self:_→Option DFS)(d:(Int×(Int×(Unit×(Unit×(Unit×(Int×(DInode×(DFS×DFS))))))))):=
 let e0:=d.2.2.2.2
 (bif (decide ((e0.2.2.1.2.2.2.2.2.2.2.1.length:Int)<e0.2.1))then(if(e0.2.2.1.2.2.2.2.2.2.2.1.length+([(-1:Int)]:List Int).length)*8≤capBytes then self (d.1,d.2.1,(),(),(),e0.2.1,(e0.2.2.1.1,e0.2.2.1.2.1,e0.2.2.1.2.2.1,e0.2.2.1.2.2.2.1,e0.2.2.1.2.2.2.2.1,e0.2.2.1.2.2.2.2.2.1,e0.2.2.1.2.2.2.2.2.2.1,(e0.2.2.1.2.2.2.2.2.2.2.1++([(-1:Int)]:List Int)),e0.2.2.1.2.2.2.2.2.2.2.2),e0.2.2.2.1,e0.2.2.2.2)else none)else(if 0≤d.1 then(if d.1<(e0.2.2.2.1.2.2.1.length:Int)then(e0.2.2.2.1.2.2.1[d.1.toNat]?).bind fun v0=>
 some (e0.2.2.2.1.1,e0.2.2.2.1.2.1,(e0.2.2.2.1.2.2.1.set d.1.toNat (e0.2.2.1.1,e0.2.2.1.2.1,e0.2.2.1.2.2.1,e0.2.2.1.2.2.2.1,e0.2.2.1.2.2.2.2.1,d.2.1,e0.2.2.1.2.2.2.2.2.2)),e0.2.2.2.1.2.2.2)else none)else none))
theorem q_spec_l09Resize_l1_ok: @spec_l09Resize_l1= @q_spec_l09Resize_l1:=by
 funext k self d
 rfl
def q_spec_l09Resize_l2_j1(k:Nat)(self:(Int×(Int×(Unit×(Unit×(Unit×(Int×(DInode×(DFS×DFS))))))))→Option DFS)(d:(Int×(Int×(Unit×(Unit×(Unit×(Int×(DInode×(DFS×DFS)))))))))(v3:(Int×(Int×(Unit×(Unit×(Unit×(Int×(DInode×(DFS×DFS))))))))):Option DFS:=
 let e0:=v3.2.2.2.2
 (if 0≤(wrapK .i64 ((e0.2.2.1.2.2.2.2.2.2.2.1.length:Int)-(1:Int)))then(if(wrapK .i64 ((e0.2.2.1.2.2.2.2.2.2.2.1.length:Int)-(1:Int)))≤(e0.2.2.1.2.2.2.2.2.2.2.1.length:Int)then self (v3.1,v3.2.1,(),(),(),e0.2.1,(e0.2.2.1.1,e0.2.2.1.2.1,e0.2.2.1.2.2.1,e0.2.2.1.2.2.2.1,e0.2.2.1.2.2.2.2.1,e0.2.2.1.2.2.2.2.2.1,e0.2.2.1.2.2.2.2.2.2.1,(e0.2.2.1.2.2.2.2.2.2.2.1.take ((wrapK .i64 ((e0.2.2.1.2.2.2.2.2.2.2.1.length:Int)-(1:Int))).toNat-0)),e0.2.2.1.2.2.2.2.2.2.2.2),e0.2.2.2.1,e0.2.2.2.2)else none)else none)
theorem q_spec_l09Resize_l2_j1_ok: @spec_l09Resize_l2_j1= @q_spec_l09Resize_l2_j1:=by
 funext k self d v3
 rfl
def q_spec_l09Resize_l2_j2(k:Nat)(self:(Int×(Int×(Unit×(Unit×(Unit×(Int×(DInode×(DFS×DFS))))))))→Option DFS)(d:(Int×(Int×(Unit×(Unit×(Unit×(Int×(DInode×(DFS×DFS)))))))))(v9:(Int×(Int×(Unit×(Unit×(Unit×(Int×(DInode×(DFS×DFS))))))))):Option DFS:=
 let e0:=v9.2.2.2.2
 iter k (q_spec_l09Resize_l1 k) (v9.1,v9.2.1,(),(),(),e0.2.1,e0.2.2.1,e0.2.2.2.1,e0.2.2.2.2)
theorem q_spec_l09Resize_l2_j2_ok: @spec_l09Resize_l2_j2= @q_spec_l09Resize_l2_j2:=by
 funext k self d v9
 simp only[spec_l09Resize_l2_j2,q_spec_l09Resize_l2_j2,q_spec_l09Resize_l1_ok]
def q_spec_l09Resize_l2(k:Nat)(self:_→Option DFS)(d:(Int×(Int×(Unit×(Unit×(Unit×(Int×(DInode×(DFS×DFS))))))))):=
 let e0:=d.2.2.2.2
 let e1:=e0.2.2.2.2
 (bif (decide (e0.2.1<(e0.2.2.1.2.2.2.2.2.2.2.1.length:Int)))then(if 0≤(wrapK .i64 ((e0.2.2.1.2.2.2.2.2.2.2.1.length:Int)-(1:Int)))then(if(wrapK .i64 ((e0.2.2.1.2.2.2.2.2.2.2.1.length:Int)-(1:Int)))<(e0.2.2.1.2.2.2.2.2.2.2.1.length:Int)then(e0.2.2.1.2.2.2.2.2.2.2.1[(wrapK .i64 ((e0.2.2.1.2.2.2.2.2.2.2.1.length:Int)-(1:Int))).toNat]?).bind fun v0=>
 (joinK (R:=DFS) ((bif (v0 != (-1:Int))then(e_spec_PadTo k ((⟨#[]⟩:ByteArray),(32:Int))).bind fun v1=>
 (if 0≤v0 then(if v0<(e0.2.2.2.1.2.2.2.length:Int)then(e0.2.2.2.1.2.2.2[v0.toNat]?).bind fun v2=>
 some (.inl (d.1,d.2.1,(),(),(),e0.2.1,e0.2.2.1,(e0.2.2.2.1.1,e0.2.2.2.1.2.1,e0.2.2.2.1.2.2.1,(e0.2.2.2.1.2.2.2.set v0.toNat v1)),e1))else none)else none)else some (.inl (d.1,d.2.1,(),(),(),e0.2.1,e0.2.2.1,e0.2.2.2.1,e1)))) (q_spec_l09Resize_l2_j1 k self d))else none)else none)else(joinK (R:=DFS) ((bif (decide (d.2.1<e0.2.2.1.2.2.2.2.2.1))then(if((32:Int):Int)≠0 then(bif (decide ((0:Int)<(d.2.1.tmod (32:Int))))then(if 0≤(wrapK .i64 (e0.2.1-(1:Int)))then(if(wrapK .i64 (e0.2.1-(1:Int)))<(e0.2.2.1.2.2.2.2.2.2.2.1.length:Int)then(e0.2.2.1.2.2.2.2.2.2.2.1[(wrapK .i64 (e0.2.1-(1:Int))).toNat]?).bind fun v4=>
 (bif (v4 != (-1:Int))then(if 0≤(wrapK .i64 (e0.2.1-(1:Int)))then(if(wrapK .i64 (e0.2.1-(1:Int)))<(e0.2.2.1.2.2.2.2.2.2.2.1.length:Int)then(e0.2.2.1.2.2.2.2.2.2.2.1[(wrapK .i64 (e0.2.1-(1:Int))).toNat]?).bind fun v5=>
 (if 0≤v5 then(if v5<(e0.2.2.2.1.2.2.2.length:Int)then(e0.2.2.2.1.2.2.2[v5.toNat]?).bind fun v6=>
 (if((32:Int):Int)≠0 then(if 0≤(d.2.1.tmod (32:Int))then(if(d.2.1.tmod (32:Int))≤(v6.size:Int)then(e_spec_PadTo k ((v6.extract 0 ((d.2.1.tmod (32:Int)).toNat)),(32:Int))).bind fun v7=>
 (if 0≤v5 then(if v5<(e0.2.2.2.1.2.2.2.length:Int)then(e0.2.2.2.1.2.2.2[v5.toNat]?).bind fun v8=>
 some (.inl (d.1,d.2.1,(),(),(),e0.2.1,e0.2.2.1,(e0.2.2.2.1.1,e0.2.2.2.1.2.1,e0.2.2.2.1.2.2.1,(e0.2.2.2.1.2.2.2.set v5.toNat v7)),e1))else none)else none)else none)else none)else none)else none)else none)else none)else none)else some (.inl (d.1,d.2.1,(),(),(),e0.2.1,e0.2.2.1,e0.2.2.2.1,e1)))else none)else none)else some (.inl (d.1,d.2.1,(),(),(),e0.2.1,e0.2.2.1,e0.2.2.2.1,e1)))else none)else some (.inl (d.1,d.2.1,(),(),(),e0.2.1,e0.2.2.1,e0.2.2.2.1,e1)))) (q_spec_l09Resize_l2_j2 k self d)))
theorem q_spec_l09Resize_l2_ok: @spec_l09Resize_l2= @q_spec_l09Resize_l2:=by
 funext k self d
 simp only[spec_l09Resize_l2,q_spec_l09Resize_l2,e_spec_PadTo_ok,q_spec_l09Resize_l2_j1_ok,q_spec_l09Resize_l2_j2_ok]
def q_spec_l09Resize(k:Nat)(x0:DFS)(x1:Int)(x2:Int):Option DFS:=
 (e_spec_l08Copy k x0).bind fun y1=>
 (if 0≤x1 then(if x1<(y1.2.2.1.length:Int)then(y1.2.2.1[x1.toNat]?).bind fun y2=>
 (y1.2.2.1[x1.toNat]?).bind fun y3=>
 (e_spec_l07Copy k y3).bind fun y4=>
 (e_spec_BlocksNeeded k x2).bind fun y5=>
 iter k (q_spec_l09Resize_l2 k) (x1,x2,(),(),(),y5,y4,y1,((0:Int),([]:List DQuota),([]:List DInode),([]:List ByteArray)))else none)else none)
theorem q_spec_l09Resize_ok: @spec_l09Resize= @q_spec_l09Resize:=by
 funext k x0 x1 x2
 simp only[spec_l09Resize,q_spec_l09Resize,e_spec_BlocksNeeded_ok,e_spec_l07Copy_ok,e_spec_l08Copy_ok,q_spec_l09Resize_l2_ok]
def e_spec_l09Resize:Nat→(DFS×DQuota)→Option DFS
 |0,_=>none
 |k+1,(x0,x1,x2)=>q_spec_l09Resize k x0 x1 x2
theorem e_spec_l09Resize_ok:c_spec_l09Resize=e_spec_l09Resize:=by
 funext k x
 cases k with
 |zero=>rfl
 |succ k=>exact(spec_l09Resize_run k x.1 x.2.1 x.2.2).trans (congrFun (congrFun (congrFun (congrFun q_spec_l09Resize_ok k) (x.1)) (x.2.1)) (x.2.2))
def q_spec_l09Free(k:Nat)(x0:DFS)(x1:Int):Option DFS:=
 (e_spec_l09Resize k (x0,x1,(0:Int))).bind fun y1=>
 (if 0≤x1 then(if x1<(y1.2.2.1.length:Int)then(y1.2.2.1[x1.toNat]?).bind fun y2=>
 some (y1.1,y1.2.1,(y1.2.2.1.set x1.toNat ((0:Int),(0:Int),(0:Int),(0:Int),(0:Int),(0:Int),(0:Int),([]:List Int),([]:List DOpen),([]:List DOpen))),y1.2.2.2)else none)else none)
theorem q_spec_l09Free_ok: @spec_l09Free= @q_spec_l09Free:=by
 funext k x0 x1
 simp only[spec_l09Free,q_spec_l09Free,e_spec_l09Resize_ok]
def e_spec_l09Free:Nat→(DFS×Int)→Option DFS
 |0,_=>none
 |k+1,(x0,x1)=>q_spec_l09Free k x0 x1
theorem e_spec_l09Free_ok:c_spec_l09Free=e_spec_l09Free:=by
 funext k x
 cases k with
 |zero=>rfl
 |succ k=>exact(spec_l09Free_run k x.1 x.2).trans (congrFun (congrFun (congrFun q_spec_l09Free_ok k) (x.1)) (x.2))
def q_spec_DropOrphans_l1(k:Nat)(self:_→Option DFS)(d:((List Int)×(Unit×(Unit×((List Int)×(Int×(Int×(DFS×DFS)))))))):=
 let e0:=d.2.2.2.2
 (bif (decide (e0.2.1<e0.1))then(if 0≤e0.2.1 then(if e0.2.1<(d.2.2.2.1.length:Int)then(d.2.2.2.1[e0.2.1.toNat]?).bind fun v0=>
 (e_spec_l02Has k (d.1,v0)).bind fun v1=>
 (bif (!v1)then(bif (v0 != (0:Int))then(e_spec_l09Free k (e0.2.2.1,v0)).bind fun v2=>
 self (d.1,(),(),d.2.2.2.1,e0.1,(wrapK .i64 (e0.2.1+(1:Int))),v2,e0.2.2.2)else self (d.1,(),(),d.2.2.2.1,e0.1,(wrapK .i64 (e0.2.1+(1:Int))),e0.2.2.1,e0.2.2.2))else self (d.1,(),(),d.2.2.2.1,e0.1,(wrapK .i64 (e0.2.1+(1:Int))),e0.2.2.1,e0.2.2.2))else none)else none)else some e0.2.2.1)
theorem q_spec_DropOrphans_l1_ok: @spec_DropOrphans_l1= @q_spec_DropOrphans_l1:=by
 funext k self d
 simp only[spec_DropOrphans_l1,q_spec_DropOrphans_l1,e_spec_l02Has_ok,e_spec_l09Free_ok]
def q_spec_DropOrphans(k:Nat)(x0:DFS)(x1:(List Int)):Option DFS:=
 (e_spec_l08Copy k x0).bind fun y1=>
 (e_spec_OrphansOf k x0).bind fun y2=>
 iter k (q_spec_DropOrphans_l1 k) (x1,(),(),y2,(y2.length:Int),(0:Int),y1,((0:Int),([]:List DQuota),([]:List DInode),([]:List ByteArray)))
theorem q_spec_DropOrphans_ok: @spec_DropOrphans= @q_spec_DropOrphans:=by
 funext k x0 x1
 simp only[spec_DropOrphans,q_spec_DropOrphans,e_spec_OrphansOf_ok,e_spec_l08Copy_ok,q_spec_DropOrphans_l1_ok]
def e_spec_DropOrphans:Nat→(DFS×(List Int))→Option DFS
 |0,_=>none
 |k+1,(x0,x1)=>q_spec_DropOrphans k x0 x1
theorem e_spec_DropOrphans_ok:c_spec_DropOrphans=e_spec_DropOrphans:=by
 funext k x
 cases k with
 |zero=>rfl
 |succ k=>exact(spec_DropOrphans_run k x.1 x.2).trans (congrFun (congrFun (congrFun q_spec_DropOrphans_ok k) (x.1)) (x.2))
def q_spec_l06Copy(k:Nat)(x0:DCred):Option DCred:=
 (if(([]:List Int).length+x0.2.2.length)*8≤capBytes then some (x0.1,x0.2.1,(([]:List Int)++x0.2.2))else none)
theorem q_spec_l06Copy_ok: @spec_l06Copy= @q_spec_l06Copy:=by
 funext k x0
 rfl
def e_spec_l06Copy:Nat→DCred→Option DCred
 |0,_=>none
 |k+1,x0=>q_spec_l06Copy k x0
theorem e_spec_l06Copy_ok:c_spec_l06Copy=e_spec_l06Copy:=by
 funext k x
 cases k with
 |zero=>rfl
 |succ k=>exact(spec_l06Copy_run k x).trans (congrFun (congrFun q_spec_l06Copy_ok k) (x))
def q_spec_NewSystem_l1(k:Nat)(self:_→Option DSystem)(d:(Unit×(Unit×((List DCred)×(Int×(Int×(DSystem×DSystem))))))):=
 let e0:=d.2.2.2.2
 (bif (decide (e0.1<d.2.2.2.1))then(if 0≤e0.1 then(d.2.2.1[e0.1.toNat]?).bind fun v0=>
 (e_spec_l06Copy k v0).bind fun v1=>
 (if 0≤(3:Int)then(if(3:Int)≤(3:Int)then(if(3:Int)*24≤(capBytes:Int)then(if(e0.2.1.2.length+([(v1,(List.replicate (3:Int).toNat ((0:Int),(0:Int),(0:Int))))]:List DProc).length)*64≤capBytes then self ((),(),d.2.2.1,d.2.2.2.1,(wrapK .i64 (e0.1+(1:Int))),(e0.2.1.1,(e0.2.1.2++([(v1,(List.replicate (3:Int).toNat ((0:Int),(0:Int),(0:Int))))]:List DProc))),e0.2.2)else none)else none)else none)else none)else none)else(e_spec_IsSystem k e0.2.1).bind fun v2=>
 (bif (!v2)then some (((0:Int),([]:List DQuota),([]:List DInode),([]:List ByteArray)),([]:List DProc))else some e0.2.1))
theorem q_spec_NewSystem_l1_ok: @spec_NewSystem_l1= @q_spec_NewSystem_l1:=by
 funext k self d
 simp only[spec_NewSystem_l1,q_spec_NewSystem_l1,e_spec_IsSystem_ok,e_spec_l06Copy_ok]
def q_spec_NewSystem(k:Nat)(x0:DFS)(x1:(List DCred)):Option DSystem:=
 (e_spec_DropOrphans k (x0,([]:List Int))).bind fun y1=>
 iter k (q_spec_NewSystem_l1 k) ((),(),x1,(x1.length:Int),(0:Int),(y1,([]:List DProc)),(((0:Int),([]:List DQuota),([]:List DInode),([]:List ByteArray)),([]:List DProc)))
theorem q_spec_NewSystem_ok: @spec_NewSystem= @q_spec_NewSystem:=by
 funext k x0 x1
 simp only[spec_NewSystem,q_spec_NewSystem,e_spec_DropOrphans_ok,q_spec_NewSystem_l1_ok]
def e_spec_NewSystem:Nat→(DFS×(List DCred))→Option DSystem
 |0,_=>none
 |k+1,(x0,x1)=>q_spec_NewSystem k x0 x1
theorem e_spec_NewSystem_ok:c_spec_NewSystem=e_spec_NewSystem:=by
 funext k x
 cases k with
 |zero=>rfl
 |succ k=>exact(spec_NewSystem_run k x.1 x.2).trans (congrFun (congrFun (congrFun q_spec_NewSystem_ok k) (x.1)) (x.2))
def q_spec_PutNumber_l1(k:Nat)(self:_→Option ByteArray)(d:(Int×((List Int)×Int))):=
 (bif (decide ((0:Int)≤d.2.2))then(if((256:Int):Int)≠0 then(if 0≤d.2.2 then(if d.2.2<(d.2.1.length:Int)then(d.2.1[d.2.2.toNat]?).bind fun v0=>
 (if((256:Int):Int)≠0 then self ((wrapK .i64 (d.1.tdiv (256:Int))),(d.2.1.set d.2.2.toNat (wrapK .u8 (d.1.tmod (256:Int)))),(wrapK .i64 (d.2.2-(1:Int))))else none)else none)else none)else none)else some (ofBytes d.2.1))
theorem q_spec_PutNumber_l1_ok: @spec_PutNumber_l1= @q_spec_PutNumber_l1:=by
 funext k self d
 rfl
def q_spec_PutNumber(k:Nat)(x0:Int)(x1:Int):Option ByteArray:=
 (e_spec_l01In k (x1,(1:Int),(6:Int))).bind fun y1=>
 (bif (!y1)then some (⟨#[]⟩:ByteArray)else(bif (decide (x0<(0:Int)))then some (⟨#[]⟩:ByteArray)else(if 0≤(wrapK .u64 ((8:Int)*(wrapK .u64 x1)))then(bif (decide ((wrapK .i64 ((1:Int)*2 ^(min (wrapK .u64 ((8:Int)*(wrapK .u64 x1))).toNat (IntKind.bits .i64))))≤x0))then some (⟨#[]⟩:ByteArray)else(if 0≤x1 then(if x1≤x1 then(if x1*1≤(capBytes:Int)then iter k (q_spec_PutNumber_l1 k) (x0,(List.replicate x1.toNat (0:Int)),(wrapK .i64 (x1-(1:Int))))else none)else none)else none))else none)))
theorem q_spec_PutNumber_ok: @spec_PutNumber= @q_spec_PutNumber:=by
 funext k x0 x1
 simp only[spec_PutNumber,q_spec_PutNumber,e_spec_l01In_ok,q_spec_PutNumber_l1_ok]
def e_spec_PutNumber:Nat→DQuota→Option ByteArray
 |0,_=>none
 |k+1,(x0,x1)=>q_spec_PutNumber k x0 x1
theorem e_spec_PutNumber_ok:c_spec_PutNumber=e_spec_PutNumber:=by
 funext k x
 cases k with
 |zero=>rfl
 |succ k=>exact(spec_PutNumber_run k x.1 x.2).trans (congrFun (congrFun (congrFun q_spec_PutNumber_ok k) (x.1)) (x.2))
def q_spec_l18Super_l1(k:Nat)(self:_→Option ByteArray)(d:(ByteArray×((List DQuota)×DQuota))):=
 (bif (decide (d.2.2.2<d.2.2.1))then(if 0≤d.2.2.2 then(d.2.1[d.2.2.2.toNat]?).bind fun v0=>
 (e_spec_PutNumber k (v0.1,(1:Int))).bind fun v1=>
 (if d.1.size+v1.size≤9223372036854775807 then(e_spec_PutNumber k (v0.2,(1:Int))).bind fun v2=>
 (if(d.1++v1).size+v2.size≤9223372036854775807 then self (((d.1++v1)++v2),d.2.1,d.2.2.1,(wrapK .i64 (d.2.2.2+(1:Int))))else none)else none)else none)else(e_spec_PadTo k (d.1,(32:Int))).bind fun v3=>
 some v3)
theorem q_spec_l18Super_l1_ok: @spec_l18Super_l1= @q_spec_l18Super_l1:=by
 funext k self d
 simp only[spec_l18Super_l1,q_spec_l18Super_l1,e_spec_PadTo_ok,e_spec_PutNumber_ok]
def q_spec_l18Super(k:Nat)(x0:DFS):Option ByteArray:=
 (e_spec_PutNumber k (x0.1,(4:Int))).bind fun y1=>
 (if(⟨#[70,83,89,83]⟩:ByteArray).size+y1.size≤9223372036854775807 then iter k (q_spec_l18Super_l1 k) (((⟨#[70,83,89,83]⟩:ByteArray)++y1),x0.2.1,(x0.2.1.length:Int),(0:Int))else none)
theorem q_spec_l18Super_ok: @spec_l18Super= @q_spec_l18Super:=by
 funext k x0
 simp only[spec_l18Super,q_spec_l18Super,e_spec_PutNumber_ok,q_spec_l18Super_l1_ok]
def e_spec_l18Super:Nat→DFS→Option ByteArray
 |0,_=>none
 |k+1,x0=>q_spec_l18Super k x0
theorem e_spec_l18Super_ok:c_spec_l18Super=e_spec_l18Super:=by
 funext k x
 cases k with
 |zero=>rfl
 |succ k=>exact(spec_l18Super_run k x).trans (congrFun (congrFun q_spec_l18Super_ok k) (x))
def q_spec_CutAll_l1(k:Nat)(self:_→Option (List ByteArray))(d:(ByteArray×(Int×(List ByteArray)))):=
 (bif (decide (d.2.1<(d.1.size:Int)))then(if 0≤d.2.1 then(if d.2.1≤(d.1.size:Int)then(if(d.2.2.length+([(d.1.extract 0 d.2.1.toNat)]:List ByteArray).length)*16≤capBytes then(if 0≤d.2.1 then(if d.2.1≤(d.1.size:Int)then self ((d.1.extract d.2.1.toNat d.1.size),d.2.1,(d.2.2++([(d.1.extract 0 d.2.1.toNat)]:List ByteArray)))else none)else none)else none)else none)else none)else(bif (!(eqS d.1 (⟨#[]⟩:ByteArray)))then(if(d.2.2.length+([d.1]:List ByteArray).length)*16≤capBytes then some (d.2.2++([d.1]:List ByteArray))else none)else some d.2.2))
theorem q_spec_CutAll_l1_ok: @spec_CutAll_l1= @q_spec_CutAll_l1:=by
 funext k self d
 rfl
def q_spec_CutAll(k:Nat)(x0:ByteArray)(x1:Int):Option (List ByteArray):=
 (e_spec_l01In k (x1,(1:Int),(1000:Int))).bind fun y1=>
 (bif (!y1)then some ([]:List ByteArray)else iter k (q_spec_CutAll_l1 k) (x0,x1,([]:List ByteArray)))
theorem q_spec_CutAll_ok: @spec_CutAll= @q_spec_CutAll:=by
 funext k x0 x1
 simp only[spec_CutAll,q_spec_CutAll,e_spec_l01In_ok,q_spec_CutAll_l1_ok]
def e_spec_CutAll:Nat→DerrorAddressString→Option (List ByteArray)
 |0,_=>none
 |k+1,(x0,x1)=>q_spec_CutAll k x0 x1
theorem e_spec_CutAll_ok:c_spec_CutAll=e_spec_CutAll:=by
 funext k x
 cases k with
 |zero=>rfl
 |succ k=>exact(spec_CutAll_run k x.1 x.2).trans (congrFun (congrFun (congrFun q_spec_CutAll_ok k) (x.1)) (x.2))
def q_spec_PackAcl_l1(k:Nat)(self:_→Option ByteArray)(d:(ByteArray×((List DOpen)×DQuota))):=
 (bif (decide (d.2.2.2<d.2.2.1))then(if 0≤d.2.2.2 then(d.2.1[d.2.2.2.toNat]?).bind fun v0=>
 (e_spec_PutNumber k (v0.1,(1:Int))).bind fun v1=>
 (if d.1.size+v1.size≤9223372036854775807 then(e_spec_PutNumber k (v0.2.1,(1:Int))).bind fun v2=>
 (if(d.1++v1).size+v2.size≤9223372036854775807 then(e_spec_PutNumber k (v0.2.2,(1:Int))).bind fun v3=>
 (if((d.1++v1)++v2).size+v3.size≤9223372036854775807 then self ((((d.1++v1)++v2)++v3),d.2.1,d.2.2.1,(wrapK .i64 (d.2.2.2+(1:Int))))else none)else none)else none)else none)else(e_spec_PadTo k (d.1,(19:Int))).bind fun v4=>
 some v4)
theorem q_spec_PackAcl_l1_ok: @spec_PackAcl_l1= @q_spec_PackAcl_l1:=by
 funext k self d
 simp only[spec_PackAcl_l1,q_spec_PackAcl_l1,e_spec_PadTo_ok,e_spec_PutNumber_ok]
def q_spec_PackAcl(k:Nat)(x0:(List DOpen)):Option ByteArray:=
 (e_spec_IsAcl k x0).bind fun y1=>
 (bif (!y1)then some (⟨#[]⟩:ByteArray)else(e_spec_PutNumber k ((x0.length:Int),(1:Int))).bind fun y2=>
 iter k (q_spec_PackAcl_l1 k) (y2,x0,(x0.length:Int),(0:Int)))
theorem q_spec_PackAcl_ok: @spec_PackAcl= @q_spec_PackAcl:=by
 funext k x0
 simp only[spec_PackAcl,q_spec_PackAcl,e_spec_IsAcl_ok,e_spec_PutNumber_ok,q_spec_PackAcl_l1_ok]
def e_spec_PackAcl:Nat→(List DOpen)→Option ByteArray
 |0,_=>none
 |k+1,x0=>q_spec_PackAcl k x0
theorem e_spec_PackAcl_ok:c_spec_PackAcl=e_spec_PackAcl:=by
 funext k x
 cases k with
 |zero=>rfl
 |succ k=>exact(spec_PackAcl_run k x).trans (congrFun (congrFun q_spec_PackAcl_ok k) (x))
def q_spec_PackInode_l1(k:Nat)(self:_→Option ByteArray)(d:(Unit×(ByteArray×(Int×DInode)))):=
 let e0:=d.2.2.2.2
 let e1:=e0.2.2.2.2
 (bif (decide (d.2.2.1<(8:Int)))then(bif (decide (d.2.2.1<(e1.2.2.1.length:Int)))then(if 0≤d.2.2.1 then(e1.2.2.1[d.2.2.1.toNat]?).bind fun v0=>
 (e_spec_PutNumber k ((wrapK .i64 (v0+(1:Int))),(2:Int))).bind fun v1=>
 (if d.2.1.size+v1.size≤9223372036854775807 then self ((),(d.2.1++v1),(wrapK .i64 (d.2.2.1+(1:Int))),d.2.2.2)else none)else none)else(e_spec_PutNumber k ((wrapK .i64 ((-1:Int)+(1:Int))),(2:Int))).bind fun v2=>
 (if d.2.1.size+v2.size≤9223372036854775807 then self ((),(d.2.1++v2),(wrapK .i64 (d.2.2.1+(1:Int))),d.2.2.2)else none))else(e_spec_PackAcl k e1.2.2.2.1).bind fun v3=>
 (if d.2.1.size+v3.size≤9223372036854775807 then(e_spec_PackAcl k e1.2.2.2.2).bind fun v4=>
 (if(d.2.1++v3).size+v4.size≤9223372036854775807 then(e_spec_PadTo k (((d.2.1++v3)++v4),(96:Int))).bind fun v5=>
 some v5 else none)else none))
theorem q_spec_PackInode_l1_ok: @spec_PackInode_l1= @q_spec_PackInode_l1:=by
 funext k self d
 simp only[spec_PackInode_l1,q_spec_PackInode_l1,e_spec_PackAcl_ok,e_spec_PadTo_ok,e_spec_PutNumber_ok]
def q_spec_PackInode(k:Nat)(x0:DInode):Option ByteArray:=
 (e_spec_IsInode k x0).bind fun y1=>
 (bif (!y1)then some (⟨#[]⟩:ByteArray)else(e_spec_PutNumber k (x0.1,(1:Int))).bind fun y2=>
 (e_spec_PutNumber k (x0.2.1,(2:Int))).bind fun y3=>
 (if y2.size+y3.size≤9223372036854775807 then(e_spec_PutNumber k (x0.2.2.1,(1:Int))).bind fun y4=>
 (if(y2++y3).size+y4.size≤9223372036854775807 then(e_spec_PutNumber k (x0.2.2.2.1,(1:Int))).bind fun y5=>
 (if((y2++y3)++y4).size+y5.size≤9223372036854775807 then(e_spec_PutNumber k (x0.2.2.2.2.1,(2:Int))).bind fun y6=>
 (if(((y2++y3)++y4)++y5).size+y6.size≤9223372036854775807 then(e_spec_PutNumber k (x0.2.2.2.2.2.1,(2:Int))).bind fun y7=>
 (if((((y2++y3)++y4)++y5)++y6).size+y7.size≤9223372036854775807 then(e_spec_PutNumber k (x0.2.2.2.2.2.2.1,(4:Int))).bind fun y8=>
 (if(((((y2++y3)++y4)++y5)++y6)++y7).size+y8.size≤9223372036854775807 then iter k (q_spec_PackInode_l1 k) ((),((((((y2++y3)++y4)++y5)++y6)++y7)++y8),(0:Int),x0)else none)else none)else none)else none)else none)else none))
theorem q_spec_PackInode_ok: @spec_PackInode= @q_spec_PackInode:=by
 funext k x0
 simp only[spec_PackInode,q_spec_PackInode,e_spec_IsInode_ok,e_spec_PutNumber_ok,q_spec_PackInode_l1_ok]
def e_spec_PackInode:Nat→DInode→Option ByteArray
 |0,_=>none
 |k+1,x0=>q_spec_PackInode k x0
theorem e_spec_PackInode_ok:c_spec_PackInode=e_spec_PackInode:=by
 funext k x
 cases k with
 |zero=>rfl
 |succ k=>exact(spec_PackInode_run k x).trans (congrFun (congrFun q_spec_PackInode_ok k) (x))
def q_spec_l18Pack_l1(k:Nat)(self:_→Option (List ByteArray))(d:(Unit×((List ByteArray)×((List DInode)×(Int×(Int×DFS)))))):=
 let e0:=d.2.2.2.2
 (bif (decide (e0.1<d.2.2.2.1))then(if 0≤e0.1 then(d.2.2.1[e0.1.toNat]?).bind fun v0=>
 (e_spec_PackInode k v0).bind fun v1=>
 (e_spec_CutAll k (v1,(32:Int))).bind fun v2=>
 (if(d.2.1.length+v2.length)*16≤capBytes then self ((),(d.2.1++v2),d.2.2.1,d.2.2.2.1,(wrapK .i64 (e0.1+(1:Int))),e0.2)else none)else none)else(if(d.2.1.length+e0.2.2.2.2.length)*16≤capBytes then some (d.2.1++e0.2.2.2.2)else none))
theorem q_spec_l18Pack_l1_ok: @spec_l18Pack_l1= @q_spec_l18Pack_l1:=by
 funext k self d
 simp only[spec_l18Pack_l1,q_spec_l18Pack_l1,e_spec_CutAll_ok,e_spec_PackInode_ok]
def q_spec_l18Pack_l2(k:Nat)(self:_→Option (List ByteArray))(d:(Unit×((List ByteArray)×DFS))):=
 (bif (decide ((d.2.1.length:Int)<(70:Int)))then(e_spec_PadTo k ((⟨#[]⟩:ByteArray),(32:Int))).bind fun v0=>
 (if(d.2.1.length+([v0]:List ByteArray).length)*16≤capBytes then self ((),(d.2.1++([v0]:List ByteArray)),d.2.2)else none)else iter k (q_spec_l18Pack_l1 k) ((),d.2.1,d.2.2.2.2.1,(d.2.2.2.2.1.length:Int),(0:Int),d.2.2))
theorem q_spec_l18Pack_l2_ok: @spec_l18Pack_l2= @q_spec_l18Pack_l2:=by
 funext k self d
 simp only[spec_l18Pack_l2,q_spec_l18Pack_l2,e_spec_PadTo_ok,q_spec_l18Pack_l1_ok]
def q_spec_l18Pack(k:Nat)(x0:DFS):Option (List ByteArray):=
 (e_spec_l18Super k x0).bind fun y1=>
 iter k (q_spec_l18Pack_l2 k) ((),([y1]:List ByteArray),x0)
theorem q_spec_l18Pack_ok: @spec_l18Pack= @q_spec_l18Pack:=by
 funext k x0
 simp only[spec_l18Pack,q_spec_l18Pack,e_spec_l18Super_ok,q_spec_l18Pack_l2_ok]
def e_spec_l18Pack:Nat→DFS→Option (List ByteArray)
 |0,_=>none
 |k+1,x0=>q_spec_l18Pack k x0
theorem e_spec_l18Pack_ok:c_spec_l18Pack=e_spec_l18Pack:=by
 funext k x
 cases k with
 |zero=>rfl
 |succ k=>exact(spec_l18Pack_run k x).trans (congrFun (congrFun q_spec_l18Pack_ok k) (x))
def q_spec_FormatFS(k:Nat)(x0:DFS):Option DDisk:=
 (e_spec_IsFS k x0).bind fun y1=>
 (bif (!y1)then some (([]:List ByteArray),([]:List DWrite))else(e_spec_l18Pack k x0).bind fun y2=>
 some (y2,([]:List DWrite)))
theorem q_spec_FormatFS_ok: @spec_FormatFS= @q_spec_FormatFS:=by
 funext k x0
 simp only[spec_FormatFS,q_spec_FormatFS,e_spec_IsFS_ok,e_spec_l18Pack_ok]
def e_spec_FormatFS:Nat→DFS→Option DDisk
 |0,_=>none
 |k+1,x0=>q_spec_FormatFS k x0
theorem e_spec_FormatFS_ok:c_spec_FormatFS=e_spec_FormatFS:=by
 funext k x
 cases k with
 |zero=>rfl
 |succ k=>exact(spec_FormatFS_run k x).trans (congrFun (congrFun q_spec_FormatFS_ok k) (x))
def q_spec_StartMachine(k:Nat)(x0:DFS)(x1:(List DCred)):Option (DMachine×Bool):=
 (e_spec_NewSystem k (x0,x1)).bind fun y1=>
 (bif ((y1.2.length:Int)==(0:Int))then some (((([]:List ByteArray),([]:List DWrite)),(0:Int),((0:Int),([]:List DQuota),([]:List DInode),([]:List ByteArray)),([]:List DProc)),false)else(e_spec_FormatFS k y1.1).bind fun y2=>
 some ((y2,(0:Int),y1),true))
theorem q_spec_StartMachine_ok: @spec_StartMachine= @q_spec_StartMachine:=by
 funext k x0 x1
 simp only[spec_StartMachine,q_spec_StartMachine,e_spec_FormatFS_ok,e_spec_NewSystem_ok]
def e_spec_StartMachine:Nat→(DFS×(List DCred))→Option (DMachine×Bool)
 |0,_=>none
 |k+1,(x0,x1)=>q_spec_StartMachine k x0 x1
theorem e_spec_StartMachine_ok:c_spec_StartMachine=e_spec_StartMachine:=by
 funext k x
 cases k with
 |zero=>rfl
 |succ k=>exact(spec_StartMachine_run k x.1 x.2).trans (congrFun (congrFun (congrFun q_spec_StartMachine_ok k) (x.1)) (x.2))
def q_spec_NewFS_l1(k:Nat)(self:_→Option DFS)(d:(Unit×(Unit×(DFS×DFS)))):=
 (bif (decide ((d.2.2.1.2.2.2.length:Int)<(56:Int)))then(e_spec_PadTo k ((⟨#[]⟩:ByteArray),(32:Int))).bind fun v0=>
 (if(d.2.2.1.2.2.2.length+([v0]:List ByteArray).length)*16≤capBytes then self ((),(),(d.2.2.1.1,d.2.2.1.2.1,d.2.2.1.2.2.1,(d.2.2.1.2.2.2++([v0]:List ByteArray))),d.2.2.2)else none)else(e_spec_IsFS k d.2.2.1).bind fun v1=>
 (bif (!v1)then some ((0:Int),([]:List DQuota),([]:List DInode),([]:List ByteArray))else some d.2.2.1))
theorem q_spec_NewFS_l1_ok: @spec_NewFS_l1= @q_spec_NewFS_l1:=by
 funext k self d
 simp only[spec_NewFS_l1,q_spec_NewFS_l1,e_spec_IsFS_ok,e_spec_PadTo_ok]
def q_spec_NewFS(k:Nat)(x0:(List DQuota)):Option DFS:=
 (if(([]:List DQuota).length+x0.length)*16≤capBytes then(if 0≤(20:Int)then(if(20:Int)≤(20:Int)then(if(20:Int)*128≤(capBytes:Int)then(if 0≤(0:Int)then(if(0:Int)<(((List.replicate (20:Int).toNat ((0:Int),(0:Int),(0:Int),(0:Int),(0:Int),(0:Int),(0:Int),([]:List Int),([]:List DOpen),([]:List DOpen))).length:Nat):Int)then((List.replicate (20:Int).toNat ((0:Int),(0:Int),(0:Int),(0:Int),(0:Int),(0:Int),(0:Int),([]:List Int),([]:List DOpen),([]:List DOpen)))[(0:Int).toNat]?).bind fun y1=>
 iter k (q_spec_NewFS_l1 k) ((),(),((0:Int),(([]:List DQuota)++x0),((List.replicate (20:Int).toNat ((0:Int),(0:Int),(0:Int),(0:Int),(0:Int),(0:Int),(0:Int),([]:List Int),([]:List DOpen),([]:List DOpen))).set (0:Int).toNat ((2:Int),(493:Int),(0:Int),(0:Int),(1:Int),(0:Int),(0:Int),([]:List Int),([]:List DOpen),([]:List DOpen))),([]:List ByteArray)),((0:Int),([]:List DQuota),([]:List DInode),([]:List ByteArray)))else none)else none)else none)else none)else none)else none)
theorem q_spec_NewFS_ok: @spec_NewFS= @q_spec_NewFS:=by
 funext k x0
 simp only[spec_NewFS,q_spec_NewFS,q_spec_NewFS_l1_ok]
def e_spec_NewFS:Nat→(List DQuota)→Option DFS
 |0,_=>none
 |k+1,x0=>q_spec_NewFS k x0
theorem e_spec_NewFS_ok:c_spec_NewFS=e_spec_NewFS:=by
 funext k x
 cases k with
 |zero=>rfl
 |succ k=>exact(spec_NewFS_run k x).trans (congrFun (congrFun q_spec_NewFS_ok k) (x))
def q_spec_NewConsole_l1(k:Nat)(self:_→Option DConsole)(d:(Unit×((List DQuota)×((List DCred)×(Int×DConsole))))):=
 (bif (decide (d.2.2.2.1<(4:Int)))then(if(d.2.1.length+([((5:Int),(14:Int))]:List DQuota).length)*16≤capBytes then(if(d.2.2.1.length+([(d.2.2.2.1,d.2.2.2.1,([]:List Int))]:List DCred).length)*40≤capBytes then self ((),(d.2.1++([((5:Int),(14:Int))]:List DQuota)),(d.2.2.1++([(d.2.2.2.1,d.2.2.2.1,([]:List Int))]:List DCred)),(wrapK .i64 (d.2.2.2.1+(1:Int))),d.2.2.2.2)else none)else none)else(e_spec_NewFS k d.2.1).bind fun v0=>
 (e_spec_StartMachine k (v0,d.2.2.1)).bind fun v1=>
 some (v1.1,(0:Int)))
theorem q_spec_NewConsole_l1_ok: @spec_NewConsole_l1= @q_spec_NewConsole_l1:=by
 funext k self d
 simp only[spec_NewConsole_l1,q_spec_NewConsole_l1,e_spec_NewFS_ok,e_spec_StartMachine_ok]
def q_spec_NewConsole(k:Nat):Option DConsole:=
 iter k (q_spec_NewConsole_l1 k) ((),([]:List DQuota),([]:List DCred),(0:Int),(((([]:List ByteArray),([]:List DWrite)),(0:Int),((0:Int),([]:List DQuota),([]:List DInode),([]:List ByteArray)),([]:List DProc)),(0:Int)))
theorem q_spec_NewConsole_ok: @spec_NewConsole= @q_spec_NewConsole:=by
 funext k
 simp only[spec_NewConsole,q_spec_NewConsole,q_spec_NewConsole_l1_ok]
def e_spec_NewConsole:Nat→Unit→Option DConsole
 |0,_=>none
 |k+1,_=>q_spec_NewConsole k
theorem e_spec_NewConsole_ok:c_spec_NewConsole=e_spec_NewConsole:=by
 funext k x
 cases k with
 |zero=>rfl
 |succ k=>exact(spec_NewConsole_run k).trans (congrFun q_spec_NewConsole_ok k)
def q_slices_Equal_int_int_l1(k:Nat)(self:_→Option Bool)(d:((List Int)×((List Int)×DQuota))):=
 (bif (decide (d.2.2.2<d.2.2.1))then(if 0≤d.2.2.2 then(d.1[d.2.2.2.toNat]?).bind fun v0=>
 (if 0≤d.2.2.2 then(d.2.1[d.2.2.2.toNat]?).bind fun v1=>
 (bif (v0 != v1)then some false else self (d.1,d.2.1,d.2.2.1,(wrapK .i64 (d.2.2.2+(1:Int)))))else none)else none)else some true)
theorem q_slices_Equal_int_int_l1_ok: @slices_Equal_int_int_l1= @q_slices_Equal_int_int_l1:=by
 funext k self d
 rfl
def q_slices_Equal_int_int(k:Nat)(x0:(List Int))(x1:(List Int)):Option Bool:=
 (bif ((x0.length:Int) != (x1.length:Int))then some false else iter k (q_slices_Equal_int_int_l1 k) (x0,x1,(x0.length:Int),(0:Int)))
theorem q_slices_Equal_int_int_ok: @slices_Equal_int_int= @q_slices_Equal_int_int:=by
 funext k x0 x1
 simp only[slices_Equal_int_int,q_slices_Equal_int_int,q_slices_Equal_int_int_l1_ok]
def e_slices_Equal_int_int:Nat→((List Int)×(List Int))→Option Bool
 |0,_=>none
 |k+1,(x0,x1)=>q_slices_Equal_int_int k x0 x1
theorem e_slices_Equal_int_int_ok:c_slices_Equal_int_int=e_slices_Equal_int_int:=by
 funext k x
 cases k with
 |zero=>rfl
 |succ k=>exact(slices_Equal_int_int_run k x.1 x.2).trans (congrFun (congrFun (congrFun q_slices_Equal_int_int_ok k) (x.1)) (x.2))
def q_slices_Equal_impl_AclEntry_impl_AclEntry_l1(k:Nat)(self:_→Option Bool)(d:((List DOpen)×((List DOpen)×DQuota))):=
 (bif (decide (d.2.2.2<d.2.2.1))then(if 0≤d.2.2.2 then(d.1[d.2.2.2.toNat]?).bind fun v0=>
 (if 0≤d.2.2.2 then(d.2.1[d.2.2.2.toNat]?).bind fun v1=>
 (bif (!((v0.1==v1.1)&&((v0.2.1==v1.2.1)&&(v0.2.2==v1.2.2))))then some false else self (d.1,d.2.1,d.2.2.1,(wrapK .i64 (d.2.2.2+(1:Int)))))else none)else none)else some true)
theorem q_slices_Equal_impl_AclEntry_impl_AclEntry_l1_ok: @slices_Equal_impl_AclEntry_impl_AclEntry_l1= @q_slices_Equal_impl_AclEntry_impl_AclEntry_l1:=by
 funext k self d
 rfl
def q_slices_Equal_impl_AclEntry_impl_AclEntry(k:Nat)(x0:(List DOpen))(x1:(List DOpen)):Option Bool:=
 (bif ((x0.length:Int) != (x1.length:Int))then some false else iter k (q_slices_Equal_impl_AclEntry_impl_AclEntry_l1 k) (x0,x1,(x0.length:Int),(0:Int)))
theorem q_slices_Equal_impl_AclEntry_impl_AclEntry_ok: @slices_Equal_impl_AclEntry_impl_AclEntry= @q_slices_Equal_impl_AclEntry_impl_AclEntry:=by
 funext k x0 x1
 simp only[slices_Equal_impl_AclEntry_impl_AclEntry,q_slices_Equal_impl_AclEntry_impl_AclEntry,q_slices_Equal_impl_AclEntry_impl_AclEntry_l1_ok]
def e_slices_Equal_impl_AclEntry_impl_AclEntry:Nat→((List DOpen)×(List DOpen))→Option Bool
 |0,_=>none
 |k+1,(x0,x1)=>q_slices_Equal_impl_AclEntry_impl_AclEntry k x0 x1
theorem e_slices_Equal_impl_AclEntry_impl_AclEntry_ok:c_slices_Equal_impl_AclEntry_impl_AclEntry=e_slices_Equal_impl_AclEntry_impl_AclEntry:=by
 funext k x
 cases k with
 |zero=>rfl
 |succ k=>exact(slices_Equal_impl_AclEntry_impl_AclEntry_run k x.1 x.2).trans (congrFun (congrFun (congrFun q_slices_Equal_impl_AclEntry_impl_AclEntry_ok k) (x.1)) (x.2))
def q_impl_SameInode(k:Nat)(x0:DInode)(x1:DInode):Option Bool:=
 (bif (x0.1==x1.1)then(bif (x0.2.1==x1.2.1)then(bif (x0.2.2.1==x1.2.2.1)then(bif (x0.2.2.2.1==x1.2.2.2.1)then(bif (x0.2.2.2.2.1==x1.2.2.2.2.1)then(bif (x0.2.2.2.2.2.1==x1.2.2.2.2.2.1)then(bif (x0.2.2.2.2.2.2.1==x1.2.2.2.2.2.2.1)then(e_slices_Equal_int_int k (x0.2.2.2.2.2.2.2.1,x1.2.2.2.2.2.2.2.1)).bind fun y1=>
 (bif y1 then(e_slices_Equal_impl_AclEntry_impl_AclEntry k (x0.2.2.2.2.2.2.2.2.1,x1.2.2.2.2.2.2.2.2.1)).bind fun y2=>
 (bif y2 then(e_slices_Equal_impl_AclEntry_impl_AclEntry k (x0.2.2.2.2.2.2.2.2.2,x1.2.2.2.2.2.2.2.2.2)).bind fun y3=>
 some y3 else some false)else some false)else some false)else some false)else some false)else some false)else some false)else some false)else some false)
theorem q_impl_SameInode_ok: @impl_SameInode= @q_impl_SameInode:=by
 funext k x0 x1
 simp only[impl_SameInode,q_impl_SameInode,e_slices_Equal_impl_AclEntry_impl_AclEntry_ok,e_slices_Equal_int_int_ok]
def e_impl_SameInode:Nat→(DInode×DInode)→Option Bool
 |0,_=>none
 |k+1,(x0,x1)=>q_impl_SameInode k x0 x1
theorem e_impl_SameInode_ok:c_impl_SameInode=e_impl_SameInode:=by
 funext k x
 cases k with
 |zero=>rfl
 |succ k=>exact(impl_SameInode_run k x.1 x.2).trans (congrFun (congrFun (congrFun q_impl_SameInode_ok k) (x.1)) (x.2))
def q_slices_Index_int_int_l1(k:Nat)(self:_→Option Int)(d:((List Int)×DOpen)):=
 (bif (decide (d.2.2.2<d.2.2.1))then(if 0≤d.2.2.2 then(d.1[d.2.2.2.toNat]?).bind fun v0=>
 (bif (d.2.1==v0)then some d.2.2.2 else self (d.1,d.2.1,d.2.2.1,(wrapK .i64 (d.2.2.2+(1:Int)))))else none)else some (-1:Int))
theorem q_slices_Index_int_int_l1_ok: @slices_Index_int_int_l1= @q_slices_Index_int_int_l1:=by
 funext k self d
 rfl
def q_slices_Index_int_int(k:Nat)(x0:(List Int))(x1:Int):Option Int:=
 iter k (q_slices_Index_int_int_l1 k) (x0,x1,(x0.length:Int),(0:Int))
theorem q_slices_Index_int_int_ok: @slices_Index_int_int= @q_slices_Index_int_int:=by
 funext k x0 x1
 simp only[slices_Index_int_int,q_slices_Index_int_int,q_slices_Index_int_int_l1_ok]
def e_slices_Index_int_int:Nat→((List Int)×Int)→Option Int
 |0,_=>none
 |k+1,(x0,x1)=>q_slices_Index_int_int k x0 x1
theorem e_slices_Index_int_int_ok:c_slices_Index_int_int=e_slices_Index_int_int:=by
 funext k x
 cases k with
 |zero=>rfl
 |succ k=>exact(slices_Index_int_int_run k x.1 x.2).trans (congrFun (congrFun (congrFun q_slices_Index_int_int_ok k) (x.1)) (x.2))
def q_slices_Contains_int_int(k:Nat)(x0:(List Int))(x1:Int):Option Bool:=
 (e_slices_Index_int_int k (x0,x1)).bind fun y1=>
 some (decide ((0:Int)≤y1))
theorem q_slices_Contains_int_int_ok: @slices_Contains_int_int= @q_slices_Contains_int_int:=by
 funext k x0 x1
 simp only[slices_Contains_int_int,q_slices_Contains_int_int,e_slices_Index_int_int_ok]
def e_slices_Contains_int_int:Nat→((List Int)×Int)→Option Bool
 |0,_=>none
 |k+1,(x0,x1)=>q_slices_Contains_int_int k x0 x1
theorem e_slices_Contains_int_int_ok:c_slices_Contains_int_int=e_slices_Contains_int_int:=by
 funext k x
 cases k with
 |zero=>rfl
 |succ k=>exact(slices_Contains_int_int_run k x.1 x.2).trans (congrFun (congrFun (congrFun q_slices_Contains_int_int_ok k) (x.1)) (x.2))
def q_impl_isUser(k:Nat)(x0:Int):Option Bool:=
 (bif (decide ((0:Int)≤x0))then some (decide (x0<(4:Int)))else some false)
theorem q_impl_isUser_ok: @impl_isUser= @q_impl_isUser:=by
 funext k x0
 rfl
def e_impl_isUser:Nat→Int→Option Bool
 |0,_=>none
 |k+1,x0=>q_impl_isUser k x0
theorem e_impl_isUser_ok:c_impl_isUser=e_impl_isUser:=by
 funext k x
 cases k with
 |zero=>rfl
 |succ k=>exact(impl_isUser_run k x).trans (congrFun (congrFun q_impl_isUser_ok k) (x))
def q_impl_isMode(k:Nat)(x0:Int):Option Bool:=
 (bif (decide ((0:Int)≤x0))then some (decide (x0≤(2047:Int)))else some false)
theorem q_impl_isMode_ok: @impl_isMode= @q_impl_isMode:=by
 funext k x0
 rfl
def e_impl_isMode:Nat→Int→Option Bool
 |0,_=>none
 |k+1,x0=>q_impl_isMode k x0
theorem e_impl_isMode_ok:c_impl_isMode=e_impl_isMode:=by
 funext k x
 cases k with
 |zero=>rfl
 |succ k=>exact(impl_isMode_run k x).trans (congrFun (congrFun q_impl_isMode_ok k) (x))
def q_impl_BlocksNeeded(k:Nat)(x0:Int):Option Int:=
 (bif (decide (x0≤(0:Int)))then some (0:Int)else(if((32:Int):Int)≠0 then some (wrapK .i64 ((wrapK .i64 ((wrapK .i64 (x0-(1:Int))).tdiv (32:Int)))+(1:Int)))else none))
theorem q_impl_BlocksNeeded_ok: @impl_BlocksNeeded= @q_impl_BlocksNeeded:=by
 funext k x0
 rfl
def e_impl_BlocksNeeded:Nat→Int→Option Int
 |0,_=>none
 |k+1,x0=>q_impl_BlocksNeeded k x0
theorem e_impl_BlocksNeeded_ok:c_impl_BlocksNeeded=e_impl_BlocksNeeded:=by
 funext k x
 cases k with
 |zero=>rfl
 |succ k=>exact(impl_BlocksNeeded_run k x).trans (congrFun (congrFun q_impl_BlocksNeeded_ok k) (x))
def q_cmp_Or_int_l1(k:Nat)(self:_→Option Int)(d:(Int×((List Int)×DQuota))):=
 (bif (decide (d.2.2.2<d.2.2.1))then(if 0≤d.2.2.2 then(d.2.1[d.2.2.2.toNat]?).bind fun v0=>
 (bif (v0 != d.1)then some v0 else self (d.1,d.2.1,d.2.2.1,(wrapK .i64 (d.2.2.2+(1:Int)))))else none)else some d.1)
theorem q_cmp_Or_int_l1_ok: @cmp_Or_int_l1= @q_cmp_Or_int_l1:=by
 funext k self d
 rfl
def q_cmp_Or_int(k:Nat)(x0:(List Int)):Option Int:=
 iter k (q_cmp_Or_int_l1 k) ((0:Int),x0,(x0.length:Int),(0:Int))
theorem q_cmp_Or_int_ok: @cmp_Or_int= @q_cmp_Or_int:=by
 funext k x0
 simp only[cmp_Or_int,q_cmp_Or_int,q_cmp_Or_int_l1_ok]
def e_cmp_Or_int:Nat→(List Int)→Option Int
 |0,_=>none
 |k+1,x0=>q_cmp_Or_int k x0
theorem e_cmp_Or_int_ok:c_cmp_Or_int=e_cmp_Or_int:=by
 funext k x
 cases k with
 |zero=>rfl
 |succ k=>exact(cmp_Or_int_run k x).trans (congrFun (congrFun q_cmp_Or_int_ok k) (x))
def q_cmp_isNaN_int(k:Nat)(x0:Int):Option Bool:=
 some (x0 != x0)
theorem q_cmp_isNaN_int_ok: @cmp_isNaN_int= @q_cmp_isNaN_int:=by
 funext k x0
 rfl
def e_cmp_isNaN_int:Nat→Int→Option Bool
 |0,_=>none
 |k+1,x0=>q_cmp_isNaN_int k x0
theorem e_cmp_isNaN_int_ok:c_cmp_isNaN_int=e_cmp_isNaN_int:=by
 funext k x
 cases k with
 |zero=>rfl
 |succ k=>exact(cmp_isNaN_int_run k x).trans (congrFun (congrFun q_cmp_isNaN_int_ok k) (x))
def q_cmp_Compare_int(k:Nat)(x0:Int)(x1:Int):Option Int:=
 (e_cmp_isNaN_int k x0).bind fun y1=>
 (e_cmp_isNaN_int k x1).bind fun y2=>
 (bif y1 then(bif y2 then some (0:Int)else some (-1:Int))else(bif y2 then some (1:Int)else(bif (decide (x0<x1))then some (-1:Int)else(bif (decide (x1<x0))then some (1:Int)else some (0:Int)))))
theorem q_cmp_Compare_int_ok: @cmp_Compare_int= @q_cmp_Compare_int:=by
 funext k x0 x1
 simp only[cmp_Compare_int,q_cmp_Compare_int,e_cmp_isNaN_int_ok]
def e_cmp_Compare_int:Nat→DQuota→Option Int
 |0,_=>none
 |k+1,(x0,x1)=>q_cmp_Compare_int k x0 x1
theorem e_cmp_Compare_int_ok:c_cmp_Compare_int=e_cmp_Compare_int:=by
 funext k x
 cases k with
 |zero=>rfl
 |succ k=>exact(cmp_Compare_int_run k x.1 x.2).trans (congrFun (congrFun (congrFun q_cmp_Compare_int_ok k) (x.1)) (x.2))
def q_impl_IsAcl_l1(k:Nat)(self:_→Option Bool)(d:((List DOpen)×((List DOpen)×DQuota))):=
 (bif (decide (d.2.2.2<d.2.2.1))then(if 0≤d.2.2.2 then(d.2.1[d.2.2.2.toNat]?).bind fun v0=>
 (bif (decide (v0.2.2<(0:Int)))then some false else(bif (decide ((7:Int)<v0.2.2))then some false else(joinK (R:=Bool) ((bif (v0.1==(1:Int))then(bif (v0.1==(1:Int))then(e_impl_isUser k v0.2.1).bind fun v1=>
 (bif (!v1)then((some false).map .inr)else some (.inl (d.1,d.2.2.2,(),d.2.1,d.2.2.1,d.2.2.2,v0)))else(bif (v0.1==(3:Int))then(bif (v0.2.1 != (0:Int))then((some false).map .inr)else some (.inl (d.1,d.2.2.2,(),d.2.1,d.2.2.1,d.2.2.2,v0)))else((some false).map .inr)))else(bif (v0.1==(2:Int))then(e_impl_isUser k v0.2.1).bind fun v2=>
 (bif (!v2)then((some false).map .inr)else some (.inl (d.1,d.2.2.2,(),d.2.1,d.2.2.1,d.2.2.2,v0)))else(bif (v0.1==(3:Int))then(bif (v0.2.1 != (0:Int))then((some false).map .inr)else some (.inl (d.1,d.2.2.2,(),d.2.1,d.2.2.1,d.2.2.2,v0)))else((some false).map .inr))))) fun(v3:((List DOpen)×(Int×(Unit×((List DOpen)×(Int×(Int×DOpen)))))))=>let e0:=v3.2.2.2.2;(bif (decide ((0:Int)<v3.2.1))then(if 0≤(wrapK .i64 (v3.2.1-(1:Int)))then(v3.1[(wrapK .i64 (v3.2.1-(1:Int))).toNat]?).bind fun v4=>
 (e_cmp_Compare_int k (v4.1,e0.2.2.1)).bind fun v5=>
 (if 0≤(wrapK .i64 (v3.2.1-(1:Int)))then(v3.1[(wrapK .i64 (v3.2.1-(1:Int))).toNat]?).bind fun v6=>
 (e_cmp_Compare_int k (v6.2.1,e0.2.2.2.1)).bind fun v7=>
 (e_cmp_Or_int k ([v5,v7]:List Int)).bind fun v8=>
 (bif (decide ((0:Int)≤v8))then some false else self (v3.1,v3.2.2.2.1,e0.1,(wrapK .i64 (e0.2.1+(1:Int)))))else none)else none)else self (v3.1,v3.2.2.2.1,e0.1,(wrapK .i64 (e0.2.1+(1:Int))))))))else none)else(bif ((d.1.length:Int)==(0:Int))then some true else(if 0≤(wrapK .i64 ((d.1.length:Int)-(1:Int)))then(d.1[(wrapK .i64 ((d.1.length:Int)-(1:Int))).toNat]?).bind fun v9=>
 some (v9.1==(3:Int))else none)))
theorem q_impl_IsAcl_l1_ok: @impl_IsAcl_l1= @q_impl_IsAcl_l1:=by
 funext k self d
 simp only[impl_IsAcl_l1,q_impl_IsAcl_l1,e_cmp_Compare_int_ok,e_cmp_Or_int_ok,e_impl_isUser_ok]
def q_impl_IsAcl(k:Nat)(x0:(List DOpen)):Option Bool:=
 (bif (decide ((6:Int)<(x0.length:Int)))then some false else iter k (q_impl_IsAcl_l1 k) (x0,x0,(x0.length:Int),(0:Int)))
theorem q_impl_IsAcl_ok: @impl_IsAcl= @q_impl_IsAcl:=by
 funext k x0
 simp only[impl_IsAcl,q_impl_IsAcl,q_impl_IsAcl_l1_ok]
def e_impl_IsAcl:Nat→(List DOpen)→Option Bool
 |0,_=>none
 |k+1,x0=>q_impl_IsAcl k x0
theorem e_impl_IsAcl_ok:c_impl_IsAcl=e_impl_IsAcl:=by
 funext k x
 cases k with
 |zero=>rfl
 |succ k=>exact(impl_IsAcl_run k x).trans (congrFun (congrFun q_impl_IsAcl_ok k) (x))
def q_impl_IsInode_l1(k:Nat)(self:_→Option Bool)(d:(Unit×((List Int)×(Int×(Int×DInode))))):=
 let e0:=d.2.2.2.2
 (bif (decide (d.2.2.2.1<d.2.2.1))then(if 0≤d.2.2.2.1 then(d.2.1[d.2.2.2.1.toNat]?).bind fun v0=>
 (bif (v0 != (-1:Int))then(bif (decide (v0<(0:Int)))then some false else(bif (decide ((999:Int)<v0))then some false else(if 0≤d.2.2.2.1 then(if d.2.2.2.1≤(e0.2.2.2.2.2.2.2.1.length:Int)then(e_slices_Contains_int_int k (((e0.2.2.2.2.2.2.2.1.take d.2.2.2.1.toNat).drop 0),v0)).bind fun v1=>
 (bif v1 then some false else self ((),d.2.1,d.2.2.1,(wrapK .i64 (d.2.2.2.1+(1:Int))),e0))else none)else none)))else self ((),d.2.1,d.2.2.1,(wrapK .i64 (d.2.2.2.1+(1:Int))),e0))else none)else(bif (e0.1==(2:Int))then some true else(bif ((e0.2.2.2.2.2.2.2.2.2.length:Int)==(0:Int))then some ((intBits .and .i64 e0.2.1 (512:Int))==(0:Int))else some false)))
theorem q_impl_IsInode_l1_ok: @impl_IsInode_l1= @q_impl_IsInode_l1:=by
 funext k self d
 simp only[impl_IsInode_l1,q_impl_IsInode_l1,e_slices_Contains_int_int_ok]
def q_impl_IsInode(k:Nat)(x0:DInode):Option Bool:=
 (joinK (R:=Bool) ((bif (x0.1==(0:Int))then(e_impl_SameInode k (x0,((0:Int),(0:Int),(0:Int),(0:Int),(0:Int),(0:Int),(0:Int),([]:List Int),([]:List DOpen),([]:List DOpen)))).bind fun y2=>
 ((some y2).map .inr)else(bif (x0.1==(1:Int))then(bif (x0.1==(1:Int))then some (.inl ((),x0))else((some false).map .inr))else(bif (x0.1==(2:Int))then some (.inl ((),x0))else((some false).map .inr))))) fun(d1:(Unit×DInode))=>let e0:=d1.2.2.2.2;let e1:=e0.2.2.2.2;(e_impl_isMode k d1.2.2.1).bind fun y3=>
 (bif (!y3)then some false else(e_impl_isUser k d1.2.2.2.1).bind fun y4=>
 (bif (!y4)then some false else(e_impl_isUser k e0.1).bind fun y5=>
 (bif (!y5)then some false else(bif (decide (e0.2.1<(0:Int)))then some false else(bif (decide ((1000:Int)<e0.2.1))then some false else(bif (decide (e0.2.2.1<(0:Int)))then some false else(bif (decide ((256:Int)<e0.2.2.1))then some false else(bif (decide (e0.2.2.2.1<(0:Int)))then some false else(bif (decide ((1000000000:Int)<e0.2.2.2.1))then some false else(e_impl_BlocksNeeded k e0.2.2.1).bind fun y6=>
 (bif ((e1.1.length:Int) != y6)then some false else(e_impl_IsAcl k e1.2.1).bind fun y7=>
 (bif (!y7)then some false else(e_impl_IsAcl k e1.2.2).bind fun y8=>
 (bif (!y8)then some false else iter k (q_impl_IsInode_l1 k) ((),e1.1,(e1.1.length:Int),(0:Int),d1.2))))))))))))))
theorem q_impl_IsInode_ok: @impl_IsInode= @q_impl_IsInode:=by
 funext k x0
 simp only[impl_IsInode,q_impl_IsInode,e_impl_BlocksNeeded_ok,e_impl_IsAcl_ok,e_impl_SameInode_ok,e_impl_isMode_ok,e_impl_isUser_ok,q_impl_IsInode_l1_ok]
def e_impl_IsInode:Nat→DInode→Option Bool
 |0,_=>none
 |k+1,x0=>q_impl_IsInode k x0
theorem e_impl_IsInode_ok:c_impl_IsInode=e_impl_IsInode:=by
 funext k x
 cases k with
 |zero=>rfl
 |succ k=>exact(impl_IsInode_run k x).trans (congrFun (congrFun q_impl_IsInode_ok k) (x))
def q_impl_BlockOwner(k:Nat)(x0:Int):Option Int:=
 (bif (decide (x0<(0:Int)))then some (-1:Int)else(bif (decide ((56:Int)≤x0))then some (-1:Int)else(if((14:Int):Int)≠0 then some (wrapK .i64 (x0.tdiv (14:Int)))else none)))
theorem q_impl_BlockOwner_ok: @impl_BlockOwner= @q_impl_BlockOwner:=by
 funext k x0
 rfl
def e_impl_BlockOwner:Nat→Int→Option Int
 |0,_=>none
 |k+1,x0=>q_impl_BlockOwner k x0
theorem e_impl_BlockOwner_ok:c_impl_BlockOwner=e_impl_BlockOwner:=by
 funext k x
 cases k with
 |zero=>rfl
 |succ k=>exact(impl_BlockOwner_run k x).trans (congrFun (congrFun q_impl_BlockOwner_ok k) (x))
def q_impl_IsZeroes_l1(k:Nat)(self:_→Option Bool)(d:(ByteArray×DQuota)):=
 (bif (decide (d.2.2<d.2.1))then(if 0≤d.2.2 then((d.1[d.2.2.toNat]?.map fun v0=>(v0.toNat:Int))).bind fun v1=>
 (bif (v1 != (0:Int))then some false else self (d.1,d.2.1,(wrapK .i64 (d.2.2+(1:Int)))))else none)else some true)
theorem q_impl_IsZeroes_l1_ok: @impl_IsZeroes_l1= @q_impl_IsZeroes_l1:=by
 funext k self d
 rfl
def q_impl_IsZeroes(k:Nat)(x0:ByteArray):Option Bool:=
 iter k (q_impl_IsZeroes_l1 k) (x0,(x0.size:Int),(0:Int))
theorem q_impl_IsZeroes_ok: @impl_IsZeroes= @q_impl_IsZeroes:=by
 funext k x0
 simp only[impl_IsZeroes,q_impl_IsZeroes,q_impl_IsZeroes_l1_ok]
def e_impl_IsZeroes:Nat→ByteArray→Option Bool
 |0,_=>none
 |k+1,x0=>q_impl_IsZeroes k x0
theorem e_impl_IsZeroes_ok:c_impl_IsZeroes=e_impl_IsZeroes:=by
 funext k x
 cases k with
 |zero=>rfl
 |succ k=>exact(impl_IsZeroes_run k x).trans (congrFun (congrFun q_impl_IsZeroes_ok k) (x))
def q_impl_IsFS_l1(k:Nat)(a0:_→Option Bool)(self:_→Option Bool)(d:(Unit×(Unit×(Unit×((List DInode)×(Int×(Int×((List Int)×(Int×(Int×(DInode×((List Bool)×DFS)))))))))))):=
 let e0:=d.2.2.2.2
 let e1:=e0.2.2.2.2
 (bif (decide (e1.1<e0.2.2.2.1))then(if 0≤e1.1 then(e0.2.2.1[e1.1.toNat]?).bind fun v0=>
 (bif (v0==(-1:Int))then self ((),(),(),d.2.2.2.1,e0.1,e0.2.1,e0.2.2.1,e0.2.2.2.1,(wrapK .i64 (e1.1+(1:Int))),e1.2.1,e1.2.2.1,e1.2.2.2)else(e_impl_BlockOwner k v0).bind fun v1=>
 (bif (v1 != e1.2.1.2.2.1)then some false else(if 0≤v0 then(if v0<(56:Int)then(e1.2.2.1[v0.toNat]?).bind fun v2=>
 (bif v2 then some false else(if 0≤v0 then(if v0<(56:Int)then(e1.2.2.1[v0.toNat]?).bind fun v3=>
 (bif (decide ((wrapK .i64 (e1.2.1.2.2.2.2.2.1-(wrapK .i64 (e1.1*(32:Int)))))<(32:Int)))then(if 0≤v0 then(e1.2.2.2.2.2.2[v0.toNat]?).bind fun v4=>
 (if 0≤(wrapK .i64 (e1.2.1.2.2.2.2.2.1-(wrapK .i64 (e1.1*(32:Int)))))then(if(wrapK .i64 (e1.2.1.2.2.2.2.2.1-(wrapK .i64 (e1.1*(32:Int)))))≤(v4.size:Int)then(e_impl_IsZeroes k (v4.extract ((wrapK .i64 (e1.2.1.2.2.2.2.2.1-(wrapK .i64 (e1.1*(32:Int))))).toNat) v4.size)).bind fun v5=>
 (bif (!v5)then some false else self ((),(),(),d.2.2.2.1,e0.1,e0.2.1,e0.2.2.1,e0.2.2.2.1,(wrapK .i64 (e1.1+(1:Int))),e1.2.1,(e1.2.2.1.set v0.toNat true),e1.2.2.2))else none)else none)else none)else self ((),(),(),d.2.2.2.1,e0.1,e0.2.1,e0.2.2.1,e0.2.2.2.1,(wrapK .i64 (e1.1+(1:Int))),e1.2.1,(e1.2.2.1.set v0.toNat true),e1.2.2.2))else none)else none))else none)else none)))else none)else a0 ((),(),d.2.2.2.1,e0.1,(wrapK .i64 (e0.2.1+(1:Int))),e1.2.2.1,e1.2.2.2))
theorem q_impl_IsFS_l1_ok: @impl_IsFS_l1= @q_impl_IsFS_l1:=by
 funext k a0 self d
 simp only[impl_IsFS_l1,q_impl_IsFS_l1,e_impl_BlockOwner_ok,e_impl_IsZeroes_ok]
def q_impl_IsFS_l2(k:Nat)(self:_→Option Bool)(d:(Unit×(Unit×((List ByteArray)×(Int×(Int×((List Bool)×DFS))))))):=
 let e0:=d.2.2.2.2
 (bif (decide (e0.1<d.2.2.2.1))then(if 0≤e0.1 then(d.2.2.1[e0.1.toNat]?).bind fun v0=>
 (if 0≤e0.1 then(if e0.1<(56:Int)then(e0.2.1[e0.1.toNat]?).bind fun v1=>
 (bif (!v1)then(e_impl_IsZeroes k v0).bind fun v2=>
 (bif (!v2)then some false else self ((),(),d.2.2.1,d.2.2.2.1,(wrapK .i64 (e0.1+(1:Int))),e0.2.1,e0.2.2))else self ((),(),d.2.2.1,d.2.2.2.1,(wrapK .i64 (e0.1+(1:Int))),e0.2.1,e0.2.2))else none)else none)else none)else(if 0≤(0:Int)then(e0.2.2.2.2.1[(0:Int).toNat]?).bind fun v3=>
 some (v3.1==(2:Int))else none))
theorem q_impl_IsFS_l2_ok: @impl_IsFS_l2= @q_impl_IsFS_l2:=by
 funext k self d
 simp only[impl_IsFS_l2,q_impl_IsFS_l2,e_impl_IsZeroes_ok]
def q_impl_IsFS_l3(k:Nat)(self:_→Option Bool)(d:(Unit×(Unit×((List DInode)×(Int×(Int×((List Bool)×DFS))))))):=
 let e0:=d.2.2.2.2
 (bif (decide (e0.1<d.2.2.2.1))then(if 0≤e0.1 then(d.2.2.1[e0.1.toNat]?).bind fun v0=>
 (e_impl_IsInode k v0).bind fun v1=>
 (bif (!v1)then some false else iter k (q_impl_IsFS_l1 k self) ((),(),(),d.2.2.1,d.2.2.2.1,e0.1,v0.2.2.2.2.2.2.2.1,(v0.2.2.2.2.2.2.2.1.length:Int),(0:Int),v0,e0.2.1,e0.2.2))else none)else iter k (q_impl_IsFS_l2 k) ((),(),e0.2.2.2.2.2,(e0.2.2.2.2.2.length:Int),(0:Int),e0.2.1,e0.2.2))
theorem q_impl_IsFS_l3_ok: @impl_IsFS_l3= @q_impl_IsFS_l3:=by
 funext k self d
 simp only[impl_IsFS_l3,q_impl_IsFS_l3,e_impl_IsInode_ok,q_impl_IsFS_l1_ok,q_impl_IsFS_l2_ok]
def q_impl_IsFS_l4(k:Nat)(self:_→Option Bool)(d:(Unit×((List ByteArray)×(Int×(Int×DFS))))):=
 let e0:=d.2.2.2.2
 (bif (decide (d.2.2.2.1<d.2.2.1))then(if 0≤d.2.2.2.1 then(d.2.1[d.2.2.2.1.toNat]?).bind fun v0=>
 (bif ((v0.size:Int) != (32:Int))then some false else self ((),d.2.1,d.2.2.1,(wrapK .i64 (d.2.2.2.1+(1:Int))),e0))else none)else iter k (q_impl_IsFS_l3 k) ((),(),e0.2.2.1,(e0.2.2.1.length:Int),(0:Int),(List.replicate 56 false),e0))
theorem q_impl_IsFS_l4_ok: @impl_IsFS_l4= @q_impl_IsFS_l4:=by
 funext k self d
 simp only[impl_IsFS_l4,q_impl_IsFS_l4,q_impl_IsFS_l3_ok]
def q_impl_IsFS_l5(k:Nat)(self:_→Option Bool)(d:(Unit×((List DQuota)×(Int×(Int×DFS))))):=
 let e0:=d.2.2.2.2
 (bif (decide (d.2.2.2.1<d.2.2.1))then(if 0≤d.2.2.2.1 then(d.2.1[d.2.2.2.1.toNat]?).bind fun v0=>
 (bif (decide (v0.1<(0:Int)))then some false else(bif (decide ((5:Int)<v0.1))then some false else(bif (decide (v0.2<(0:Int)))then some false else(bif (decide ((14:Int)<v0.2))then some false else self ((),d.2.1,d.2.2.1,(wrapK .i64 (d.2.2.2.1+(1:Int))),e0)))))else none)else iter k (q_impl_IsFS_l4 k) ((),e0.2.2.2,(e0.2.2.2.length:Int),(0:Int),e0))
theorem q_impl_IsFS_l5_ok: @impl_IsFS_l5= @q_impl_IsFS_l5:=by
 funext k self d
 simp only[impl_IsFS_l5,q_impl_IsFS_l5,q_impl_IsFS_l4_ok]
def q_impl_IsFS(k:Nat)(x0:DFS):Option Bool:=
 (bif (decide (x0.1<(0:Int)))then some false else(bif (decide ((1000000000:Int)<x0.1))then some false else(bif ((x0.2.1.length:Int) != (4:Int))then some false else(bif ((x0.2.2.1.length:Int) != (20:Int))then some false else(bif ((x0.2.2.2.length:Int) != (56:Int))then some false else iter k (q_impl_IsFS_l5 k) ((),x0.2.1,(x0.2.1.length:Int),(0:Int),x0))))))
theorem q_impl_IsFS_ok: @impl_IsFS= @q_impl_IsFS:=by
 funext k x0
 simp only[impl_IsFS,q_impl_IsFS,q_impl_IsFS_l5_ok]
def e_impl_IsFS:Nat→DFS→Option Bool
 |0,_=>none
 |k+1,x0=>q_impl_IsFS k x0
theorem e_impl_IsFS_ok:c_impl_IsFS=e_impl_IsFS:=by
 funext k x
 cases k with
 |zero=>rfl
 |succ k=>exact(impl_IsFS_run k x).trans (congrFun (congrFun q_impl_IsFS_ok k) (x))
def q_impl_IsCred_l1(k:Nat)(self:_→Option Bool)(d:(Unit×((List Int)×(Int×(Int×DCred))))):=
 let e0:=d.2.2.2.2
 (bif (decide (d.2.2.2.1<d.2.2.1))then(if 0≤d.2.2.2.1 then(d.2.1[d.2.2.2.1.toNat]?).bind fun v0=>
 (e_impl_isUser k v0).bind fun v1=>
 (bif (!v1)then some false else(bif (decide ((0:Int)<d.2.2.2.1))then(if 0≤(wrapK .i64 (d.2.2.2.1-(1:Int)))then(e0.2.2[(wrapK .i64 (d.2.2.2.1-(1:Int))).toNat]?).bind fun v2=>
 (bif (decide (v0≤v2))then some false else self ((),d.2.1,d.2.2.1,(wrapK .i64 (d.2.2.2.1+(1:Int))),e0))else none)else self ((),d.2.1,d.2.2.1,(wrapK .i64 (d.2.2.2.1+(1:Int))),e0)))else none)else(e_impl_isUser k e0.1).bind fun v3=>
 (bif v3 then(e_impl_isUser k e0.2.1).bind fun v4=>
 some v4 else some false))
theorem q_impl_IsCred_l1_ok: @impl_IsCred_l1= @q_impl_IsCred_l1:=by
 funext k self d
 simp only[impl_IsCred_l1,q_impl_IsCred_l1,e_impl_isUser_ok]
def q_impl_IsCred(k:Nat)(x0:DCred):Option Bool:=
 iter k (q_impl_IsCred_l1 k) ((),x0.2.2,(x0.2.2.length:Int),(0:Int),x0)
theorem q_impl_IsCred_ok: @impl_IsCred= @q_impl_IsCred:=by
 funext k x0
 simp only[impl_IsCred,q_impl_IsCred,q_impl_IsCred_l1_ok]
def e_impl_IsCred:Nat→DCred→Option Bool
 |0,_=>none
 |k+1,x0=>q_impl_IsCred k x0
theorem e_impl_IsCred_ok:c_impl_IsCred=e_impl_IsCred:=by
 funext k x
 cases k with
 |zero=>rfl
 |succ k=>exact(impl_IsCred_run k x).trans (congrFun (congrFun q_impl_IsCred_ok k) (x))
def q_impl_FS_has(k:Nat)(x0:(Option DFS))(x1:Int):Option Bool:=
 (bif (decide ((0:Int)≤x1))then(bif (decide (x1<(20:Int)))then(x0).bind fun y1=>
 (if 0≤x1 then(y1.2.2.1[x1.toNat]?).bind fun y2=>
 some (y2.1 != (0:Int))else none)else some false)else some false)
theorem q_impl_FS_has_ok: @impl_FS_has= @q_impl_FS_has:=by
 funext k x0 x1
 rfl
def e_impl_FS_has:Nat→((Option DFS)×Int)→Option Bool
 |0,_=>none
 |k+1,(x0,x1)=>q_impl_FS_has k x0 x1
theorem e_impl_FS_has_ok:c_impl_FS_has=e_impl_FS_has:=by
 funext k x
 cases k with
 |zero=>rfl
 |succ k=>exact(impl_FS_has_run k x.1 x.2).trans (congrFun (congrFun (congrFun q_impl_FS_has_ok k) (x.1)) (x.2))
def q_impl_FS_isDir(k:Nat)(x0:(Option DFS))(x1:Int):Option Bool:=
 (e_impl_FS_has k (x0,x1)).bind fun y1=>
 (bif y1 then(x0).bind fun y2=>
 (if 0≤x1 then(y2.2.2.1[x1.toNat]?).bind fun y3=>
 some (y3.1==(2:Int))else none)else some false)
theorem q_impl_FS_isDir_ok: @impl_FS_isDir= @q_impl_FS_isDir:=by
 funext k x0 x1
 simp only[impl_FS_isDir,q_impl_FS_isDir,e_impl_FS_has_ok]
def e_impl_FS_isDir:Nat→((Option DFS)×Int)→Option Bool
 |0,_=>none
 |k+1,(x0,x1)=>q_impl_FS_isDir k x0 x1
theorem e_impl_FS_isDir_ok:c_impl_FS_isDir=e_impl_FS_isDir:=by
 funext k x
 cases k with
 |zero=>rfl
 |succ k=>exact(impl_FS_isDir_run k x.1 x.2).trans (congrFun (congrFun (congrFun q_impl_FS_isDir_ok k) (x.1)) (x.2))
def q_impl_System_isOpen_l1(k:Nat)(a0:_→Option Bool)(self:_→Option Bool)(d:(Int×((List DProc)×(Int×(Int×((List DOpen)×DQuota)))))):=
 let e0:=d.2.2.2.2
 (bif (decide (e0.2.2<e0.2.1))then(if 0≤e0.2.2 then(e0.1[e0.2.2.toNat]?).bind fun v0=>
 (bif (v0.2.2 != (0:Int))then(bif (v0.1==d.1)then some true else self (d.1,d.2.1,d.2.2.1,d.2.2.2.1,e0.1,e0.2.1,(wrapK .i64 (e0.2.2+(1:Int)))))else self (d.1,d.2.1,d.2.2.1,d.2.2.2.1,e0.1,e0.2.1,(wrapK .i64 (e0.2.2+(1:Int)))))else none)else a0 (d.1,d.2.1,d.2.2.1,(wrapK .i64 (d.2.2.2.1+(1:Int)))))
theorem q_impl_System_isOpen_l1_ok: @impl_System_isOpen_l1= @q_impl_System_isOpen_l1:=by
 funext k a0 self d
 rfl
def q_impl_System_isOpen_l2(k:Nat)(self:_→Option Bool)(d:(Int×((List DProc)×DQuota))):=
 (bif (decide (d.2.2.2<d.2.2.1))then(if 0≤d.2.2.2 then(d.2.1[d.2.2.2.toNat]?).bind fun v0=>
 iter k (q_impl_System_isOpen_l1 k self) (d.1,d.2.1,d.2.2.1,d.2.2.2,v0.2,(v0.2.length:Int),(0:Int))else none)else some false)
theorem q_impl_System_isOpen_l2_ok: @impl_System_isOpen_l2= @q_impl_System_isOpen_l2:=by
 funext k self d
 simp only[impl_System_isOpen_l2,q_impl_System_isOpen_l2,q_impl_System_isOpen_l1_ok]
def q_impl_System_isOpen(k:Nat)(x0:(Option DSystem))(x1:Int):Option Bool:=
 (x0).bind fun y1=>
 iter k (q_impl_System_isOpen_l2 k) (x1,y1.2,(y1.2.length:Int),(0:Int))
theorem q_impl_System_isOpen_ok: @impl_System_isOpen= @q_impl_System_isOpen:=by
 funext k x0 x1
 simp only[impl_System_isOpen,q_impl_System_isOpen,q_impl_System_isOpen_l2_ok]
def e_impl_System_isOpen:Nat→((Option DSystem)×Int)→Option Bool
 |0,_=>none
 |k+1,(x0,x1)=>q_impl_System_isOpen k x0 x1
theorem e_impl_System_isOpen_ok:c_impl_System_isOpen=e_impl_System_isOpen:=by
 funext k x
 cases k with
 |zero=>rfl
 |succ k=>exact(impl_System_isOpen_run k x.1 x.2).trans (congrFun (congrFun (congrFun q_impl_System_isOpen_ok k) (x.1)) (x.2))
def q_impl_IsSystem_l1(k:Nat)(a0:_→Option Bool)(self:_→Option Bool)(d:(Unit×((List DProc)×(Int×(Int×((List DOpen)×(Int×(Int×DSystem)))))))):=
 let e0:=d.2.2.2.2
 (bif (decide (e0.2.2.1<e0.2.1))then(if 0≤e0.2.2.1 then(e0.1[e0.2.2.1.toNat]?).bind fun v0=>
 (bif ((v0.1==(0:Int))&&((v0.2.1==(0:Int))&&(v0.2.2==(0:Int))))then self ((),d.2.1,d.2.2.1,d.2.2.2.1,e0.1,e0.2.1,(wrapK .i64 (e0.2.2.1+(1:Int))),e0.2.2.2)else(bif (decide (v0.2.2<(1:Int)))then some false else(bif (decide ((63:Int)<v0.2.2))then some false else(bif ((intBits .and .i64 v0.2.2 (6:Int))==(0:Int))then some false else(e_impl_FS_has k ((some e0.2.2.2.1),v0.1)).bind fun v1=>
 (bif (!v1)then some false else(e_impl_FS_isDir k ((some e0.2.2.2.1),v0.1)).bind fun v2=>
 (bif v2 then some false else(bif (decide (v0.2.1<(0:Int)))then some false else(bif (decide ((1000000:Int)<v0.2.1))then some false else self ((),d.2.1,d.2.2.1,d.2.2.2.1,e0.1,e0.2.1,(wrapK .i64 (e0.2.2.1+(1:Int))),e0.2.2.2)))))))))else none)else a0 ((),d.2.1,d.2.2.1,(wrapK .i64 (d.2.2.2.1+(1:Int))),e0.2.2.2))
theorem q_impl_IsSystem_l1_ok: @impl_IsSystem_l1= @q_impl_IsSystem_l1:=by
 funext k a0 self d
 simp only[impl_IsSystem_l1,q_impl_IsSystem_l1,e_impl_FS_has_ok,e_impl_FS_isDir_ok]
def q_impl_IsSystem_l2(k:Nat)(self:_→Option Bool)(d:(Unit×((List DInode)×(Int×(Int×DSystem))))):=
 let e0:=d.2.2.2.2
 (bif (decide (d.2.2.2.1<d.2.2.1))then(if 0≤d.2.2.2.1 then(d.2.1[d.2.2.2.1.toNat]?).bind fun v0=>
 (bif (v0.1==(1:Int))then(bif (v0.2.2.2.2.1==(0:Int))then(e_impl_System_isOpen k ((some e0),d.2.2.2.1)).bind fun v1=>
 (bif (!v1)then some false else self ((),d.2.1,d.2.2.1,(wrapK .i64 (d.2.2.2.1+(1:Int))),e0))else self ((),d.2.1,d.2.2.1,(wrapK .i64 (d.2.2.2.1+(1:Int))),e0))else self ((),d.2.1,d.2.2.1,(wrapK .i64 (d.2.2.2.1+(1:Int))),e0))else none)else some true)
theorem q_impl_IsSystem_l2_ok: @impl_IsSystem_l2= @q_impl_IsSystem_l2:=by
 funext k self d
 simp only[impl_IsSystem_l2,q_impl_IsSystem_l2,e_impl_System_isOpen_ok]
def q_impl_IsSystem_l3(k:Nat)(self:_→Option Bool)(d:(Unit×((List DProc)×(Int×(Int×DSystem))))):=
 let e0:=d.2.2.2.2
 (bif (decide (d.2.2.2.1<d.2.2.1))then(if 0≤d.2.2.2.1 then(d.2.1[d.2.2.2.1.toNat]?).bind fun v0=>
 (e_impl_IsCred k v0.1).bind fun v1=>
 (bif (!v1)then some false else(bif ((v0.2.length:Int) != (3:Int))then some false else iter k (q_impl_IsSystem_l1 k self) ((),d.2.1,d.2.2.1,d.2.2.2.1,v0.2,(v0.2.length:Int),(0:Int),e0)))else none)else iter k (q_impl_IsSystem_l2 k) ((),e0.1.2.2.1,(e0.1.2.2.1.length:Int),(0:Int),e0))
theorem q_impl_IsSystem_l3_ok: @impl_IsSystem_l3= @q_impl_IsSystem_l3:=by
 funext k self d
 simp only[impl_IsSystem_l3,q_impl_IsSystem_l3,e_impl_IsCred_ok,q_impl_IsSystem_l1_ok,q_impl_IsSystem_l2_ok]
def q_impl_IsSystem(k:Nat)(x0:DSystem):Option Bool:=
 (e_impl_IsFS k x0.1).bind fun y1=>
 (bif (!y1)then some false else(bif ((x0.2.length:Int) != (4:Int))then some false else iter k (q_impl_IsSystem_l3 k) ((),x0.2,(x0.2.length:Int),(0:Int),x0)))
theorem q_impl_IsSystem_ok: @impl_IsSystem= @q_impl_IsSystem:=by
 funext k x0
 simp only[impl_IsSystem,q_impl_IsSystem,e_impl_IsFS_ok,q_impl_IsSystem_l3_ok]
def e_impl_IsSystem:Nat→DSystem→Option Bool
 |0,_=>none
 |k+1,x0=>q_impl_IsSystem k x0
theorem e_impl_IsSystem_ok:c_impl_IsSystem=e_impl_IsSystem:=by
 funext k x
 cases k with
 |zero=>rfl
 |succ k=>exact(impl_IsSystem_run k x).trans (congrFun (congrFun q_impl_IsSystem_ok k) (x))
def q_impl_copyInode(k:Nat)(x0:DInode):Option DInode:=
 (e_slices_Clone_int_int k x0.2.2.2.2.2.2.2.1).bind fun y1=>
 (e_slices_Clone_impl_AclEntry_impl_AclEntry k x0.2.2.2.2.2.2.2.2.1).bind fun y2=>
 (e_slices_Clone_impl_AclEntry_impl_AclEntry k x0.2.2.2.2.2.2.2.2.2).bind fun y3=>
 some (x0.1,x0.2.1,x0.2.2.1,x0.2.2.2.1,x0.2.2.2.2.1,x0.2.2.2.2.2.1,x0.2.2.2.2.2.2.1,y1,y2,y3)
theorem q_impl_copyInode_ok: @impl_copyInode= @q_impl_copyInode:=by
 funext k x0
 simp only[impl_copyInode,q_impl_copyInode,e_slices_Clone_impl_AclEntry_impl_AclEntry_ok,e_slices_Clone_int_int_ok]
def e_impl_copyInode:Nat→DInode→Option DInode
 |0,_=>none
 |k+1,x0=>q_impl_copyInode k x0
theorem e_impl_copyInode_ok:c_impl_copyInode=e_impl_copyInode:=by
 funext k x
 cases k with
 |zero=>rfl
 |succ k=>exact(impl_copyInode_run k x).trans (congrFun (congrFun q_impl_copyInode_ok k) (x))
def q_impl_copyFS_l1(k:Nat)(self:_→Option DFS)(d:(Unit×(Unit×((List DInode)×(Int×(Int×(DFS×DFS))))))):=
 let e0:=d.2.2.2.2
 (bif (decide (e0.1<d.2.2.2.1))then(if 0≤e0.1 then(d.2.2.1[e0.1.toNat]?).bind fun v0=>
 (e_impl_copyInode k v0).bind fun v1=>
 (if(e0.2.1.2.2.1.length+([v1]:List DInode).length)*128≤capBytes then self ((),(),d.2.2.1,d.2.2.2.1,(wrapK .i64 (e0.1+(1:Int))),(e0.2.1.1,e0.2.1.2.1,(e0.2.1.2.2.1++([v1]:List DInode)),e0.2.1.2.2.2),e0.2.2)else none)else none)else some e0.2.1)
theorem q_impl_copyFS_l1_ok: @impl_copyFS_l1= @q_impl_copyFS_l1:=by
 funext k self d
 simp only[impl_copyFS_l1,q_impl_copyFS_l1,e_impl_copyInode_ok]
def q_impl_copyFS(k:Nat)(x0:DFS):Option DFS:=
 (e_slices_Clone_impl_Quota_impl_Quota k x0.2.1).bind fun y1=>
 (e_slices_Clone_string_string k x0.2.2.2).bind fun y2=>
 iter k (q_impl_copyFS_l1 k) ((),(),x0.2.2.1,(x0.2.2.1.length:Int),(0:Int),(x0.1,y1,([]:List DInode),y2),((0:Int),([]:List DQuota),([]:List DInode),([]:List ByteArray)))
theorem q_impl_copyFS_ok: @impl_copyFS= @q_impl_copyFS:=by
 funext k x0
 simp only[impl_copyFS,q_impl_copyFS,e_slices_Clone_impl_Quota_impl_Quota_ok,e_slices_Clone_string_string_ok,q_impl_copyFS_l1_ok]
def e_impl_copyFS:Nat→DFS→Option DFS
 |0,_=>none
 |k+1,x0=>q_impl_copyFS k x0
theorem e_impl_copyFS_ok:c_impl_copyFS=e_impl_copyFS:=by
 funext k x
 cases k with
 |zero=>rfl
 |succ k=>exact(impl_copyFS_run k x).trans (congrFun (congrFun q_impl_copyFS_ok k) (x))
def q_impl_OrphansOf_l1(k:Nat)(self:_→Option (List Int))(d:((List Int)×((List DInode)×DQuota))):=
 (bif (decide (d.2.2.2<d.2.2.1))then(if 0≤d.2.2.2 then(d.2.1[d.2.2.2.toNat]?).bind fun v0=>
 (bif (v0.1 != (0:Int))then(bif (v0.2.2.2.2.1==(0:Int))then(if(d.1.length+([d.2.2.2]:List Int).length)*8≤capBytes then self ((d.1++([d.2.2.2]:List Int)),d.2.1,d.2.2.1,(wrapK .i64 (d.2.2.2+(1:Int))))else none)else self (d.1,d.2.1,d.2.2.1,(wrapK .i64 (d.2.2.2+(1:Int)))))else self (d.1,d.2.1,d.2.2.1,(wrapK .i64 (d.2.2.2+(1:Int)))))else none)else some d.1)
theorem q_impl_OrphansOf_l1_ok: @impl_OrphansOf_l1= @q_impl_OrphansOf_l1:=by
 funext k self d
 rfl
def q_impl_OrphansOf(k:Nat)(x0:DFS):Option (List Int):=
 (e_impl_IsFS k x0).bind fun y1=>
 (bif (!y1)then some ([]:List Int)else iter k (q_impl_OrphansOf_l1 k) (([]:List Int),x0.2.2.1,(x0.2.2.1.length:Int),(0:Int)))
theorem q_impl_OrphansOf_ok: @impl_OrphansOf= @q_impl_OrphansOf:=by
 funext k x0
 simp only[impl_OrphansOf,q_impl_OrphansOf,e_impl_IsFS_ok,q_impl_OrphansOf_l1_ok]
def e_impl_OrphansOf:Nat→DFS→Option (List Int)
 |0,_=>none
 |k+1,x0=>q_impl_OrphansOf k x0
theorem e_impl_OrphansOf_ok:c_impl_OrphansOf=e_impl_OrphansOf:=by
 funext k x
 cases k with
 |zero=>rfl
 |succ k=>exact(impl_OrphansOf_run k x).trans (congrFun (congrFun q_impl_OrphansOf_ok k) (x))
def q_impl_zeros(k:Nat)(x0:Int):Option ByteArray:=
 (if 0≤x0 then(if x0≤x0 then(if x0*1≤(capBytes:Int)then some (ofBytes (List.replicate x0.toNat (0:Int)))else none)else none)else none)
theorem q_impl_zeros_ok: @impl_zeros= @q_impl_zeros:=by
 funext k x0
 rfl
def e_impl_zeros:Nat→Int→Option ByteArray
 |0,_=>none
 |k+1,x0=>q_impl_zeros k x0
theorem e_impl_zeros_ok:c_impl_zeros=e_impl_zeros:=by
 funext k x
 cases k with
 |zero=>rfl
 |succ k=>exact(impl_zeros_run k x).trans (congrFun (congrFun q_impl_zeros_ok k) (x))
def q_impl_UsedBlocks_l1(k:Nat)(self:_→Option (List Int))(d:((List Int)×((List Int)×DQuota))):=
 (bif (decide (d.2.2.2<d.2.2.1))then(if 0≤d.2.2.2 then(d.2.1[d.2.2.2.toNat]?).bind fun v0=>
 (bif (v0 != (-1:Int))then(if(d.1.length+([v0]:List Int).length)*8≤capBytes then self ((d.1++([v0]:List Int)),d.2.1,d.2.2.1,(wrapK .i64 (d.2.2.2+(1:Int))))else none)else self (d.1,d.2.1,d.2.2.1,(wrapK .i64 (d.2.2.2+(1:Int)))))else none)else some d.1)
theorem q_impl_UsedBlocks_l1_ok: @impl_UsedBlocks_l1= @q_impl_UsedBlocks_l1:=by
 funext k self d
 rfl
def q_impl_UsedBlocks(k:Nat)(x0:DInode):Option (List Int):=
 iter k (q_impl_UsedBlocks_l1 k) (([]:List Int),x0.2.2.2.2.2.2.2.1,(x0.2.2.2.2.2.2.2.1.length:Int),(0:Int))
theorem q_impl_UsedBlocks_ok: @impl_UsedBlocks= @q_impl_UsedBlocks:=by
 funext k x0
 simp only[impl_UsedBlocks,q_impl_UsedBlocks,q_impl_UsedBlocks_l1_ok]
def e_impl_UsedBlocks:Nat→DInode→Option (List Int)
 |0,_=>none
 |k+1,x0=>q_impl_UsedBlocks k x0
theorem e_impl_UsedBlocks_ok:c_impl_UsedBlocks=e_impl_UsedBlocks:=by
 funext k x
 cases k with
 |zero=>rfl
 |succ k=>exact(impl_UsedBlocks_run k x).trans (congrFun (congrFun q_impl_UsedBlocks_ok k) (x))
def q_impl_FS_free_l1(k:Nat)(self:_→Option (Int×DFS))(d:(Unit×(Int×((List Int)×(Int×(Int×DFS)))))):=
 let e0:=d.2.2.2.2
 let e1:=e0.2.2.2.2
 (bif (decide (e0.1<d.2.2.2.1))then(if 0≤e0.1 then(if e0.1<(d.2.2.1.length:Int)then(d.2.2.1[e0.1.toNat]?).bind fun v0=>
 (e_impl_zeros k (32:Int)).bind fun v1=>
 (if 0≤v0 then(if v0<(e1.length:Int)then(e1[v0.toNat]?).bind fun v2=>
 self ((),d.2.1,d.2.2.1,d.2.2.2.1,(wrapK .i64 (e0.1+(1:Int))),(e0.2.1,e0.2.2.1,e0.2.2.2.1,(e1.set v0.toNat v1)))else none)else none)else none)else none)else(if 0≤d.2.1 then(if d.2.1<(e0.2.2.2.1.length:Int)then(e0.2.2.2.1[d.2.1.toNat]?).bind fun v3=>
 some ((0:Int),(e0.2.1,e0.2.2.1,(e0.2.2.2.1.set d.2.1.toNat ((0:Int),(0:Int),(0:Int),(0:Int),(0:Int),(0:Int),(0:Int),([]:List Int),([]:List DOpen),([]:List DOpen))),e1))else none)else none))
theorem q_impl_FS_free_l1_ok: @impl_FS_free_l1= @q_impl_FS_free_l1:=by
 funext k self d
 simp only[impl_FS_free_l1,q_impl_FS_free_l1,e_impl_zeros_ok]
def q_impl_FS_free(k:Nat)(x0:DFS)(x1:Int):Option (Int×DFS):=
 (bif (x1==(0:Int))then some ((1:Int),x0)else(if 0≤x1 then(if x1<(x0.2.2.1.length:Int)then(x0.2.2.1[x1.toNat]?).bind fun y1=>
 (x0.2.2.1[x1.toNat]?).bind fun y2=>
 (e_impl_UsedBlocks k y2).bind fun y3=>
 iter k (q_impl_FS_free_l1 k) ((),x1,y3,(y3.length:Int),(0:Int),x0)else none)else none))
theorem q_impl_FS_free_ok: @impl_FS_free= @q_impl_FS_free:=by
 funext k x0 x1
 simp only[impl_FS_free,q_impl_FS_free,e_impl_UsedBlocks_ok,q_impl_FS_free_l1_ok]
def e_impl_FS_free:Nat→(DFS×Int)→Option (Int×DFS)
 |0,_=>none
 |k+1,(x0,x1)=>q_impl_FS_free k x0 x1
theorem e_impl_FS_free_ok:c_impl_FS_free=e_impl_FS_free:=by
 funext k x
 cases k with
 |zero=>rfl
 |succ k=>exact(impl_FS_free_run k x.1 x.2).trans (congrFun (congrFun (congrFun q_impl_FS_free_ok k) (x.1)) (x.2))
def q_impl_DropOrphans_l1(k:Nat)(self:_→Option DFS)(d:((List Int)×(Unit×(Unit×((List Int)×(Int×(Int×(DFS×DFS)))))))):=
 let e0:=d.2.2.2.2
 (bif (decide (e0.2.1<e0.1))then(if 0≤e0.2.1 then(if e0.2.1<(d.2.2.2.1.length:Int)then(d.2.2.2.1[e0.2.1.toNat]?).bind fun v0=>
 (e_slices_Contains_int_int k (d.1,v0)).bind fun v1=>
 (bif (!v1)then(e_impl_FS_free k (e0.2.2.1,v0)).bind fun v2=>
 self (d.1,(),(),d.2.2.2.1,e0.1,(wrapK .i64 (e0.2.1+(1:Int))),v2.2,e0.2.2.2)else self (d.1,(),(),d.2.2.2.1,e0.1,(wrapK .i64 (e0.2.1+(1:Int))),e0.2.2.1,e0.2.2.2))else none)else none)else some e0.2.2.1)
theorem q_impl_DropOrphans_l1_ok: @impl_DropOrphans_l1= @q_impl_DropOrphans_l1:=by
 funext k self d
 simp only[impl_DropOrphans_l1,q_impl_DropOrphans_l1,e_impl_FS_free_ok,e_slices_Contains_int_int_ok]
def q_impl_DropOrphans(k:Nat)(x0:DFS)(x1:(List Int)):Option DFS:=
 (e_impl_copyFS k x0).bind fun y1=>
 (e_impl_OrphansOf k x0).bind fun y2=>
 iter k (q_impl_DropOrphans_l1 k) (x1,(),(),y2,(y2.length:Int),(0:Int),y1,((0:Int),([]:List DQuota),([]:List DInode),([]:List ByteArray)))
theorem q_impl_DropOrphans_ok: @impl_DropOrphans= @q_impl_DropOrphans:=by
 funext k x0 x1
 simp only[impl_DropOrphans,q_impl_DropOrphans,e_impl_OrphansOf_ok,e_impl_copyFS_ok,q_impl_DropOrphans_l1_ok]
def e_impl_DropOrphans:Nat→(DFS×(List Int))→Option DFS
 |0,_=>none
 |k+1,(x0,x1)=>q_impl_DropOrphans k x0 x1
theorem e_impl_DropOrphans_ok:c_impl_DropOrphans=e_impl_DropOrphans:=by
 funext k x
 cases k with
 |zero=>rfl
 |succ k=>exact(impl_DropOrphans_run k x.1 x.2).trans (congrFun (congrFun (congrFun q_impl_DropOrphans_ok k) (x.1)) (x.2))
def q_impl_copyCred(k:Nat)(x0:DCred):Option DCred:=
 (e_slices_Clone_int_int k x0.2.2).bind fun y1=>
 some (x0.1,x0.2.1,y1)
theorem q_impl_copyCred_ok: @impl_copyCred= @q_impl_copyCred:=by
 funext k x0
 simp only[impl_copyCred,q_impl_copyCred,e_slices_Clone_int_int_ok]
def e_impl_copyCred:Nat→DCred→Option DCred
 |0,_=>none
 |k+1,x0=>q_impl_copyCred k x0
theorem e_impl_copyCred_ok:c_impl_copyCred=e_impl_copyCred:=by
 funext k x
 cases k with
 |zero=>rfl
 |succ k=>exact(impl_copyCred_run k x).trans (congrFun (congrFun q_impl_copyCred_ok k) (x))
def q_impl_NewSystem_l1(k:Nat)(self:_→Option DSystem)(d:(Unit×(Unit×((List DCred)×(Int×(Int×(DSystem×DSystem))))))):=
 let e0:=d.2.2.2.2
 (bif (decide (e0.1<d.2.2.2.1))then(if 0≤e0.1 then(d.2.2.1[e0.1.toNat]?).bind fun v0=>
 (e_impl_copyCred k v0).bind fun v1=>
 (if 0≤(3:Int)then(if(3:Int)≤(3:Int)then(if(3:Int)*24≤(capBytes:Int)then(if(e0.2.1.2.length+([(v1,(List.replicate (3:Int).toNat ((0:Int),(0:Int),(0:Int))))]:List DProc).length)*64≤capBytes then self ((),(),d.2.2.1,d.2.2.2.1,(wrapK .i64 (e0.1+(1:Int))),(e0.2.1.1,(e0.2.1.2++([(v1,(List.replicate (3:Int).toNat ((0:Int),(0:Int),(0:Int))))]:List DProc))),e0.2.2)else none)else none)else none)else none)else none)else(e_impl_IsSystem k e0.2.1).bind fun v2=>
 (bif (!v2)then some (((0:Int),([]:List DQuota),([]:List DInode),([]:List ByteArray)),([]:List DProc))else some e0.2.1))
theorem q_impl_NewSystem_l1_ok: @impl_NewSystem_l1= @q_impl_NewSystem_l1:=by
 funext k self d
 simp only[impl_NewSystem_l1,q_impl_NewSystem_l1,e_impl_IsSystem_ok,e_impl_copyCred_ok]
def q_impl_NewSystem(k:Nat)(x0:DFS)(x1:(List DCred)):Option DSystem:=
 (bif ((x1.length:Int) != (4:Int))then some (((0:Int),([]:List DQuota),([]:List DInode),([]:List ByteArray)),([]:List DProc))else(e_impl_DropOrphans k (x0,([]:List Int))).bind fun y1=>
 iter k (q_impl_NewSystem_l1 k) ((),(),x1,(x1.length:Int),(0:Int),(y1,([]:List DProc)),(((0:Int),([]:List DQuota),([]:List DInode),([]:List ByteArray)),([]:List DProc))))
theorem q_impl_NewSystem_ok: @impl_NewSystem= @q_impl_NewSystem:=by
 funext k x0 x1
 simp only[impl_NewSystem,q_impl_NewSystem,e_impl_DropOrphans_ok,q_impl_NewSystem_l1_ok]
def e_impl_NewSystem:Nat→(DFS×(List DCred))→Option DSystem
 |0,_=>none
 |k+1,(x0,x1)=>q_impl_NewSystem k x0 x1
theorem e_impl_NewSystem_ok:c_impl_NewSystem=e_impl_NewSystem:=by
 funext k x
 cases k with
 |zero=>rfl
 |succ k=>exact(impl_NewSystem_run k x.1 x.2).trans (congrFun (congrFun (congrFun q_impl_NewSystem_ok k) (x.1)) (x.2))
def q_impl_PutNumber_l1(k:Nat)(self:_→Option ByteArray)(d:(Int×((List Int)×Int))):=
 (bif (decide ((0:Int)≤d.2.2))then(if 0≤d.2.2 then(if d.2.2<(d.2.1.length:Int)then(d.2.1[d.2.2.toNat]?).bind fun v0=>
 (if 0≤(8:Int)then self ((d.1.fdiv (2 ^(min (8:Int).toNat (IntKind.bits .i64)))),(d.2.1.set d.2.2.toNat (wrapK .u8 d.1)),(wrapK .i64 (d.2.2-(1:Int))))else none)else none)else none)else some (ofBytes d.2.1))
theorem q_impl_PutNumber_l1_ok: @impl_PutNumber_l1= @q_impl_PutNumber_l1:=by
 funext k self d
 rfl
def q_impl_PutNumber(k:Nat)(x0:Int)(x1:Int):Option ByteArray:=
 (bif (decide (x1<(1:Int)))then some (⟨#[]⟩:ByteArray)else(bif (decide ((6:Int)<x1))then some (⟨#[]⟩:ByteArray)else(bif (decide (x0<(0:Int)))then some (⟨#[]⟩:ByteArray)else(if 0≤(wrapK .i64 ((8:Int)*x1))then(bif (decide ((wrapK .i64 ((1:Int)*2 ^(min (wrapK .i64 ((8:Int)*x1)).toNat (IntKind.bits .i64))))≤x0))then some (⟨#[]⟩:ByteArray)else(if 0≤x1 then(if x1≤x1 then(if x1*1≤(capBytes:Int)then iter k (q_impl_PutNumber_l1 k) (x0,(List.replicate x1.toNat (0:Int)),(wrapK .i64 (x1-(1:Int))))else none)else none)else none))else none))))
theorem q_impl_PutNumber_ok: @impl_PutNumber= @q_impl_PutNumber:=by
 funext k x0 x1
 simp only[impl_PutNumber,q_impl_PutNumber,q_impl_PutNumber_l1_ok]
def e_impl_PutNumber:Nat→DQuota→Option ByteArray
 |0,_=>none
 |k+1,(x0,x1)=>q_impl_PutNumber k x0 x1
theorem e_impl_PutNumber_ok:c_impl_PutNumber=e_impl_PutNumber:=by
 funext k x
 cases k with
 |zero=>rfl
 |succ k=>exact(impl_PutNumber_run k x.1 x.2).trans (congrFun (congrFun (congrFun q_impl_PutNumber_ok k) (x.1)) (x.2))
def q_impl_PadTo(k:Nat)(x0:ByteArray)(x1:Int):Option ByteArray:=
 (bif (decide (x1≤(x0.size:Int)))then some x0 else(bif (decide ((100000:Int)<x1))then some (⟨#[]⟩:ByteArray)else(e_strings_Repeat k ((⟨#[0]⟩:ByteArray),(wrapK .i64 (x1-(x0.size:Int))))).bind fun y1=>
 (if x0.size+y1.size≤9223372036854775807 then some (x0++y1)else none)))
theorem q_impl_PadTo_ok: @impl_PadTo= @q_impl_PadTo:=by
 funext k x0 x1
 simp only[impl_PadTo,q_impl_PadTo,e_strings_Repeat_ok]
def e_impl_PadTo:Nat→DerrorAddressString→Option ByteArray
 |0,_=>none
 |k+1,(x0,x1)=>q_impl_PadTo k x0 x1
theorem e_impl_PadTo_ok:c_impl_PadTo=e_impl_PadTo:=by
 funext k x
 cases k with
 |zero=>rfl
 |succ k=>exact(impl_PadTo_run k x.1 x.2).trans (congrFun (congrFun (congrFun q_impl_PadTo_ok k) (x.1)) (x.2))
def q_impl_FS_super_l1(k:Nat)(self:_→Option ByteArray)(d:(ByteArray×((List DQuota)×DQuota))):=
 (bif (decide (d.2.2.2<d.2.2.1))then(if 0≤d.2.2.2 then(d.2.1[d.2.2.2.toNat]?).bind fun v0=>
 (e_impl_PutNumber k (v0.1,(1:Int))).bind fun v1=>
 (e_impl_PutNumber k (v0.2,(1:Int))).bind fun v2=>
 (if v1.size+v2.size≤9223372036854775807 then(if d.1.size+(v1++v2).size≤9223372036854775807 then self ((d.1++(v1++v2)),d.2.1,d.2.2.1,(wrapK .i64 (d.2.2.2+(1:Int))))else none)else none)else none)else(e_impl_PadTo k (d.1,(32:Int))).bind fun v3=>
 some v3)
theorem q_impl_FS_super_l1_ok: @impl_FS_super_l1= @q_impl_FS_super_l1:=by
 funext k self d
 simp only[impl_FS_super_l1,q_impl_FS_super_l1,e_impl_PadTo_ok,e_impl_PutNumber_ok]
def q_impl_FS_super(k:Nat)(x0:(Option DFS)):Option ByteArray:=
 (x0).bind fun y1=>
 (e_impl_PutNumber k (y1.1,(4:Int))).bind fun y2=>
 (if(⟨#[70,83,89,83]⟩:ByteArray).size+y2.size≤9223372036854775807 then(x0).bind fun y3=>
 iter k (q_impl_FS_super_l1 k) (((⟨#[70,83,89,83]⟩:ByteArray)++y2),y3.2.1,(y3.2.1.length:Int),(0:Int))else none)
theorem q_impl_FS_super_ok: @impl_FS_super= @q_impl_FS_super:=by
 funext k x0
 simp only[impl_FS_super,q_impl_FS_super,e_impl_PutNumber_ok,q_impl_FS_super_l1_ok]
def e_impl_FS_super:Nat→(Option DFS)→Option ByteArray
 |0,_=>none
 |k+1,x0=>q_impl_FS_super k x0
theorem e_impl_FS_super_ok:c_impl_FS_super=e_impl_FS_super:=by
 funext k x
 cases k with
 |zero=>rfl
 |succ k=>exact(impl_FS_super_run k x).trans (congrFun (congrFun q_impl_FS_super_ok k) (x))
def q_impl_CutAll_l1(k:Nat)(self:_→Option (List ByteArray))(d:(ByteArray×(Int×(List ByteArray)))):=
 (bif (decide ((0:Int)<(d.1.size:Int)))then(if 0≤(min d.2.1 (d.1.size:Int))then(if(min d.2.1 (d.1.size:Int))≤(d.1.size:Int)then(if(d.2.2.length+([(d.1.extract 0 ((min d.2.1 (d.1.size:Int)).toNat))]:List ByteArray).length)*16≤capBytes then(if 0≤(min d.2.1 (d.1.size:Int))then(if(min d.2.1 (d.1.size:Int))≤(d.1.size:Int)then self ((d.1.extract ((min d.2.1 (d.1.size:Int)).toNat) d.1.size),d.2.1,(d.2.2++([(d.1.extract 0 ((min d.2.1 (d.1.size:Int)).toNat))]:List ByteArray)))else none)else none)else none)else none)else none)else some d.2.2)
theorem q_impl_CutAll_l1_ok: @impl_CutAll_l1= @q_impl_CutAll_l1:=by
 funext k self d
 rfl
def q_impl_CutAll(k:Nat)(x0:ByteArray)(x1:Int):Option (List ByteArray):=
 (bif (decide (x1<(1:Int)))then some ([]:List ByteArray)else(bif (decide ((1000:Int)<x1))then some ([]:List ByteArray)else iter k (q_impl_CutAll_l1 k) (x0,x1,([]:List ByteArray))))
theorem q_impl_CutAll_ok: @impl_CutAll= @q_impl_CutAll:=by
 funext k x0 x1
 simp only[impl_CutAll,q_impl_CutAll,q_impl_CutAll_l1_ok]
def e_impl_CutAll:Nat→DerrorAddressString→Option (List ByteArray)
 |0,_=>none
 |k+1,(x0,x1)=>q_impl_CutAll k x0 x1
theorem e_impl_CutAll_ok:c_impl_CutAll=e_impl_CutAll:=by
 funext k x
 cases k with
 |zero=>rfl
 |succ k=>exact(impl_CutAll_run k x.1 x.2).trans (congrFun (congrFun (congrFun q_impl_CutAll_ok k) (x.1)) (x.2))
def q_impl_PackAcl_l1(k:Nat)(self:_→Option ByteArray)(d:(ByteArray×((List DOpen)×DQuota))):=
 (bif (decide (d.2.2.2<d.2.2.1))then(if 0≤d.2.2.2 then(d.2.1[d.2.2.2.toNat]?).bind fun v0=>
 (e_impl_PutNumber k (v0.1,(1:Int))).bind fun v1=>
 (e_impl_PutNumber k (v0.2.1,(1:Int))).bind fun v2=>
 (if v1.size+v2.size≤9223372036854775807 then(e_impl_PutNumber k (v0.2.2,(1:Int))).bind fun v3=>
 (if(v1++v2).size+v3.size≤9223372036854775807 then(if d.1.size+((v1++v2)++v3).size≤9223372036854775807 then self ((d.1++((v1++v2)++v3)),d.2.1,d.2.2.1,(wrapK .i64 (d.2.2.2+(1:Int))))else none)else none)else none)else none)else(e_impl_PadTo k (d.1,(19:Int))).bind fun v4=>
 some v4)
theorem q_impl_PackAcl_l1_ok: @impl_PackAcl_l1= @q_impl_PackAcl_l1:=by
 funext k self d
 simp only[impl_PackAcl_l1,q_impl_PackAcl_l1,e_impl_PadTo_ok,e_impl_PutNumber_ok]
def q_impl_PackAcl(k:Nat)(x0:(List DOpen)):Option ByteArray:=
 (e_impl_IsAcl k x0).bind fun y1=>
 (bif (!y1)then some (⟨#[]⟩:ByteArray)else(e_impl_PutNumber k ((x0.length:Int),(1:Int))).bind fun y2=>
 iter k (q_impl_PackAcl_l1 k) (y2,x0,(x0.length:Int),(0:Int)))
theorem q_impl_PackAcl_ok: @impl_PackAcl= @q_impl_PackAcl:=by
 funext k x0
 simp only[impl_PackAcl,q_impl_PackAcl,e_impl_IsAcl_ok,e_impl_PutNumber_ok,q_impl_PackAcl_l1_ok]
def e_impl_PackAcl:Nat→(List DOpen)→Option ByteArray
 |0,_=>none
 |k+1,x0=>q_impl_PackAcl k x0
theorem e_impl_PackAcl_ok:c_impl_PackAcl=e_impl_PackAcl:=by
 funext k x
 cases k with
 |zero=>rfl
 |succ k=>exact(impl_PackAcl_run k x).trans (congrFun (congrFun q_impl_PackAcl_ok k) (x))
def q_impl_PackInode_l1(k:Nat)(self:_→Option ByteArray)(d:(Unit×(ByteArray×(Int×DInode)))):=
 let e0:=d.2.2.2.2
 let e1:=e0.2.2.2.2
 (bif (decide (d.2.2.1<(8:Int)))then(bif (decide (d.2.2.1<(e1.2.2.1.length:Int)))then(if 0≤d.2.2.1 then(e1.2.2.1[d.2.2.1.toNat]?).bind fun v0=>
 (e_impl_PutNumber k ((wrapK .i64 (v0+(1:Int))),(2:Int))).bind fun v1=>
 (if d.2.1.size+v1.size≤9223372036854775807 then self ((),(d.2.1++v1),(wrapK .i64 (d.2.2.1+(1:Int))),d.2.2.2)else none)else none)else(e_impl_PutNumber k ((wrapK .i64 ((-1:Int)+(1:Int))),(2:Int))).bind fun v2=>
 (if d.2.1.size+v2.size≤9223372036854775807 then self ((),(d.2.1++v2),(wrapK .i64 (d.2.2.1+(1:Int))),d.2.2.2)else none))else(e_impl_PackAcl k e1.2.2.2.1).bind fun v3=>
 (if d.2.1.size+v3.size≤9223372036854775807 then(e_impl_PackAcl k e1.2.2.2.2).bind fun v4=>
 (if(d.2.1++v3).size+v4.size≤9223372036854775807 then(e_impl_PadTo k (((d.2.1++v3)++v4),(96:Int))).bind fun v5=>
 some v5 else none)else none))
theorem q_impl_PackInode_l1_ok: @impl_PackInode_l1= @q_impl_PackInode_l1:=by
 funext k self d
 simp only[impl_PackInode_l1,q_impl_PackInode_l1,e_impl_PackAcl_ok,e_impl_PadTo_ok,e_impl_PutNumber_ok]
def q_impl_PackInode(k:Nat)(x0:DInode):Option ByteArray:=
 (e_impl_IsInode k x0).bind fun y1=>
 (bif (!y1)then some (⟨#[]⟩:ByteArray)else(e_impl_PutNumber k (x0.1,(1:Int))).bind fun y2=>
 (e_impl_PutNumber k (x0.2.1,(2:Int))).bind fun y3=>
 (if y2.size+y3.size≤9223372036854775807 then(e_impl_PutNumber k (x0.2.2.1,(1:Int))).bind fun y4=>
 (if(y2++y3).size+y4.size≤9223372036854775807 then(e_impl_PutNumber k (x0.2.2.2.1,(1:Int))).bind fun y5=>
 (if((y2++y3)++y4).size+y5.size≤9223372036854775807 then(e_impl_PutNumber k (x0.2.2.2.2.1,(2:Int))).bind fun y6=>
 (if(((y2++y3)++y4)++y5).size+y6.size≤9223372036854775807 then(e_impl_PutNumber k (x0.2.2.2.2.2.1,(2:Int))).bind fun y7=>
 (if((((y2++y3)++y4)++y5)++y6).size+y7.size≤9223372036854775807 then(e_impl_PutNumber k (x0.2.2.2.2.2.2.1,(4:Int))).bind fun y8=>
 (if(((((y2++y3)++y4)++y5)++y6)++y7).size+y8.size≤9223372036854775807 then iter k (q_impl_PackInode_l1 k) ((),((((((y2++y3)++y4)++y5)++y6)++y7)++y8),(0:Int),x0)else none)else none)else none)else none)else none)else none))
theorem q_impl_PackInode_ok: @impl_PackInode= @q_impl_PackInode:=by
 funext k x0
 simp only[impl_PackInode,q_impl_PackInode,e_impl_IsInode_ok,e_impl_PutNumber_ok,q_impl_PackInode_l1_ok]
def e_impl_PackInode:Nat→DInode→Option ByteArray
 |0,_=>none
 |k+1,x0=>q_impl_PackInode k x0
theorem e_impl_PackInode_ok:c_impl_PackInode=e_impl_PackInode:=by
 funext k x
 cases k with
 |zero=>rfl
 |succ k=>exact(impl_PackInode_run k x).trans (congrFun (congrFun q_impl_PackInode_ok k) (x))
def q_impl_PackFS_l1(k:Nat)(self:_→Option (List ByteArray))(d:(Unit×((List ByteArray)×((List DInode)×(Int×(Int×DFS)))))):=
 let e0:=d.2.2.2.2
 (bif (decide (e0.1<d.2.2.2.1))then(if 0≤e0.1 then(d.2.2.1[e0.1.toNat]?).bind fun v0=>
 (e_impl_PackInode k v0).bind fun v1=>
 (e_impl_CutAll k (v1,(32:Int))).bind fun v2=>
 (if(d.2.1.length+v2.length)*16≤capBytes then self ((),(d.2.1++v2),d.2.2.1,d.2.2.2.1,(wrapK .i64 (e0.1+(1:Int))),e0.2)else none)else none)else(if(d.2.1.length+e0.2.2.2.2.length)*16≤capBytes then some (d.2.1++e0.2.2.2.2)else none))
theorem q_impl_PackFS_l1_ok: @impl_PackFS_l1= @q_impl_PackFS_l1:=by
 funext k self d
 simp only[impl_PackFS_l1,q_impl_PackFS_l1,e_impl_CutAll_ok,e_impl_PackInode_ok]
def q_impl_PackFS(k:Nat)(x0:DFS):Option (List ByteArray):=
 (e_impl_IsFS k x0).bind fun y1=>
 (bif (!y1)then some ([]:List ByteArray)else(e_impl_FS_super k (some x0)).bind fun y2=>
 (e_impl_zeros k (32:Int)).bind fun y3=>
 (e_slices_Repeat_string_string k (([y3]:List ByteArray),(69:Int))).bind fun y4=>
 (if(([y2]:List ByteArray).length+y4.length)*16≤capBytes then iter k (q_impl_PackFS_l1 k) ((),(([y2]:List ByteArray)++y4),x0.2.2.1,(x0.2.2.1.length:Int),(0:Int),x0)else none))
theorem q_impl_PackFS_ok: @impl_PackFS= @q_impl_PackFS:=by
 funext k x0
 simp only[impl_PackFS,q_impl_PackFS,e_impl_FS_super_ok,e_impl_IsFS_ok,e_impl_zeros_ok,e_slices_Repeat_string_string_ok,q_impl_PackFS_l1_ok]
def e_impl_PackFS:Nat→DFS→Option (List ByteArray)
 |0,_=>none
 |k+1,x0=>q_impl_PackFS k x0
theorem e_impl_PackFS_ok:c_impl_PackFS=e_impl_PackFS:=by
 funext k x
 cases k with
 |zero=>rfl
 |succ k=>exact(impl_PackFS_run k x).trans (congrFun (congrFun q_impl_PackFS_ok k) (x))
def q_impl_FormatFS(k:Nat)(x0:DFS):Option DDisk:=
 (e_impl_PackFS k x0).bind fun y1=>
 some (y1,([]:List DWrite))
theorem q_impl_FormatFS_ok: @impl_FormatFS= @q_impl_FormatFS:=by
 funext k x0
 simp only[impl_FormatFS,q_impl_FormatFS,e_impl_PackFS_ok]
def e_impl_FormatFS:Nat→DFS→Option DDisk
 |0,_=>none
 |k+1,x0=>q_impl_FormatFS k x0
theorem e_impl_FormatFS_ok:c_impl_FormatFS=e_impl_FormatFS:=by
 funext k x
 cases k with
 |zero=>rfl
 |succ k=>exact(impl_FormatFS_run k x).trans (congrFun (congrFun q_impl_FormatFS_ok k) (x))
def q_impl_StartMachine(k:Nat)(x0:DFS)(x1:(List DCred)):Option (DMachine×Bool):=
 (e_impl_NewSystem k (x0,x1)).bind fun y1=>
 (e_impl_IsSystem k y1).bind fun y2=>
 (bif (!y2)then some (((([]:List ByteArray),([]:List DWrite)),(0:Int),((0:Int),([]:List DQuota),([]:List DInode),([]:List ByteArray)),([]:List DProc)),false)else(e_impl_FormatFS k y1.1).bind fun y3=>
 some ((y3,(0:Int),y1),true))
theorem q_impl_StartMachine_ok: @impl_StartMachine= @q_impl_StartMachine:=by
 funext k x0 x1
 simp only[impl_StartMachine,q_impl_StartMachine,e_impl_FormatFS_ok,e_impl_IsSystem_ok,e_impl_NewSystem_ok]
def e_impl_StartMachine:Nat→(DFS×(List DCred))→Option (DMachine×Bool)
 |0,_=>none
 |k+1,(x0,x1)=>q_impl_StartMachine k x0 x1
theorem e_impl_StartMachine_ok:c_impl_StartMachine=e_impl_StartMachine:=by
 funext k x
 cases k with
 |zero=>rfl
 |succ k=>exact(impl_StartMachine_run k x.1 x.2).trans (congrFun (congrFun (congrFun q_impl_StartMachine_ok k) (x.1)) (x.2))
def q_impl_NewFS(k:Nat)(x0:(List DQuota)):Option DFS:=
 (e_slices_Clone_impl_Quota_impl_Quota k x0).bind fun y1=>
 (if 0≤(20:Int)then(if(20:Int)≤(20:Int)then(if(20:Int)*128≤(capBytes:Int)then(e_impl_zeros k (32:Int)).bind fun y2=>
 (e_slices_Repeat_string_string k (([y2]:List ByteArray),(56:Int))).bind fun y3=>
 (if 0≤(0:Int)then(if(0:Int)<(((List.replicate (20:Int).toNat ((0:Int),(0:Int),(0:Int),(0:Int),(0:Int),(0:Int),(0:Int),([]:List Int),([]:List DOpen),([]:List DOpen))).length:Nat):Int)then((List.replicate (20:Int).toNat ((0:Int),(0:Int),(0:Int),(0:Int),(0:Int),(0:Int),(0:Int),([]:List Int),([]:List DOpen),([]:List DOpen)))[(0:Int).toNat]?).bind fun y4=>
 (e_impl_IsFS k ((0:Int),y1,((List.replicate (20:Int).toNat ((0:Int),(0:Int),(0:Int),(0:Int),(0:Int),(0:Int),(0:Int),([]:List Int),([]:List DOpen),([]:List DOpen))).set (0:Int).toNat ((2:Int),(493:Int),(0:Int),(0:Int),(1:Int),(0:Int),(0:Int),([]:List Int),([]:List DOpen),([]:List DOpen))),y3)).bind fun y5=>
 (bif (!y5)then some ((0:Int),([]:List DQuota),([]:List DInode),([]:List ByteArray))else some ((0:Int),y1,((List.replicate (20:Int).toNat ((0:Int),(0:Int),(0:Int),(0:Int),(0:Int),(0:Int),(0:Int),([]:List Int),([]:List DOpen),([]:List DOpen))).set (0:Int).toNat ((2:Int),(493:Int),(0:Int),(0:Int),(1:Int),(0:Int),(0:Int),([]:List Int),([]:List DOpen),([]:List DOpen))),y3))else none)else none)else none)else none)else none)
theorem q_impl_NewFS_ok: @impl_NewFS= @q_impl_NewFS:=by
 funext k x0
 simp only[impl_NewFS,q_impl_NewFS,e_impl_IsFS_ok,e_impl_zeros_ok,e_slices_Clone_impl_Quota_impl_Quota_ok,e_slices_Repeat_string_string_ok]
def e_impl_NewFS:Nat→(List DQuota)→Option DFS
 |0,_=>none
 |k+1,x0=>q_impl_NewFS k x0
theorem e_impl_NewFS_ok:c_impl_NewFS=e_impl_NewFS:=by
 funext k x
 cases k with
 |zero=>rfl
 |succ k=>exact(impl_NewFS_run k x).trans (congrFun (congrFun q_impl_NewFS_ok k) (x))
def q_impl_NewConsole_l1(k:Nat)(self:_→Option DConsole)(d:(Unit×((List DQuota)×((List DCred)×(Int×DConsole))))):=
 (bif (decide (d.2.2.2.1<(4:Int)))then(if(d.2.1.length+([((5:Int),(14:Int))]:List DQuota).length)*16≤capBytes then(if(d.2.2.1.length+([(d.2.2.2.1,d.2.2.2.1,([]:List Int))]:List DCred).length)*40≤capBytes then self ((),(d.2.1++([((5:Int),(14:Int))]:List DQuota)),(d.2.2.1++([(d.2.2.2.1,d.2.2.2.1,([]:List Int))]:List DCred)),(wrapK .i64 (d.2.2.2.1+(1:Int))),d.2.2.2.2)else none)else none)else(e_impl_NewFS k d.2.1).bind fun v0=>
 (e_impl_StartMachine k (v0,d.2.2.1)).bind fun v1=>
 some (v1.1,(0:Int)))
theorem q_impl_NewConsole_l1_ok: @impl_NewConsole_l1= @q_impl_NewConsole_l1:=by
 funext k self d
 simp only[impl_NewConsole_l1,q_impl_NewConsole_l1,e_impl_NewFS_ok,e_impl_StartMachine_ok]
def q_impl_NewConsole(k:Nat):Option DConsole:=
 iter k (q_impl_NewConsole_l1 k) ((),([]:List DQuota),([]:List DCred),(0:Int),(((([]:List ByteArray),([]:List DWrite)),(0:Int),((0:Int),([]:List DQuota),([]:List DInode),([]:List ByteArray)),([]:List DProc)),(0:Int)))
theorem q_impl_NewConsole_ok: @impl_NewConsole= @q_impl_NewConsole:=by
 funext k
 simp only[impl_NewConsole,q_impl_NewConsole,q_impl_NewConsole_l1_ok]
def e_impl_NewConsole:Nat→Unit→Option DConsole
 |0,_=>none
 |k+1,_=>q_impl_NewConsole k
theorem e_impl_NewConsole_ok:c_impl_NewConsole=e_impl_NewConsole:=by
 funext k x
 cases k with
 |zero=>rfl
 |succ k=>exact(impl_NewConsole_run k).trans (congrFun q_impl_NewConsole_ok k)
def q_laws_eqStringS_l1(k:Nat)(self:_→Option Bool)(d:((List ByteArray)×((List ByteArray)×Int))):=
 (bif (decide (d.2.2<(d.1.length:Int)))then(if 0≤d.2.2 then(d.1[d.2.2.toNat]?).bind fun v0=>
 (if 0≤d.2.2 then(d.2.1[d.2.2.toNat]?).bind fun v1=>
 (bif (!(eqS v0 v1))then some false else self (d.1,d.2.1,(wrapK .i64 (d.2.2+(1:Int)))))else none)else none)else some true)
theorem q_laws_eqStringS_l1_ok: @laws_eqStringS_l1= @q_laws_eqStringS_l1:=by
 funext k self d
 rfl
def q_laws_eqStringS(k:Nat)(x0:(List ByteArray))(x1:(List ByteArray)):Option Bool:=
 (bif ((x0.length:Int) != (x1.length:Int))then some false else iter k (q_laws_eqStringS_l1 k) (x0,x1,(0:Int)))
theorem q_laws_eqStringS_ok: @laws_eqStringS= @q_laws_eqStringS:=by
 funext k x0 x1
 simp only[laws_eqStringS,q_laws_eqStringS,q_laws_eqStringS_l1_ok]
def e_laws_eqStringS:Nat→((List ByteArray)×(List ByteArray))→Option Bool
 |0,_=>none
 |k+1,(x0,x1)=>q_laws_eqStringS k x0 x1
theorem e_laws_eqStringS_ok:c_laws_eqStringS=e_laws_eqStringS:=by
 funext k x
 cases k with
 |zero=>rfl
 |succ k=>exact(laws_eqStringS_run k x.1 x.2).trans (congrFun (congrFun (congrFun q_laws_eqStringS_ok k) (x.1)) (x.2))
def q_laws_eqWrite(k:Nat)(x0:DWrite)(x1:DWrite):Option Bool:=
 (bif (x0.1 != x1.1)then some false else(bif (!(eqS x0.2 x1.2))then some false else some true))
theorem q_laws_eqWrite_ok: @laws_eqWrite= @q_laws_eqWrite:=by
 funext k x0 x1
 rfl
def e_laws_eqWrite:Nat→(DWrite×DWrite)→Option Bool
 |0,_=>none
 |k+1,(x0,x1)=>q_laws_eqWrite k x0 x1
theorem e_laws_eqWrite_ok:c_laws_eqWrite=e_laws_eqWrite:=by
 funext k x
 cases k with
 |zero=>rfl
 |succ k=>exact(laws_eqWrite_run k x.1 x.2).trans (congrFun (congrFun (congrFun q_laws_eqWrite_ok k) (x.1)) (x.2))
def q_laws_eqWriteS_l1(k:Nat)(self:_→Option Bool)(d:((List DWrite)×((List DWrite)×Int))):=
 (bif (decide (d.2.2<(d.1.length:Int)))then(if 0≤d.2.2 then(d.1[d.2.2.toNat]?).bind fun v0=>
 (if 0≤d.2.2 then(d.2.1[d.2.2.toNat]?).bind fun v1=>
 (e_laws_eqWrite k (v0,v1)).bind fun v2=>
 (bif (!v2)then some false else self (d.1,d.2.1,(wrapK .i64 (d.2.2+(1:Int)))))else none)else none)else some true)
theorem q_laws_eqWriteS_l1_ok: @laws_eqWriteS_l1= @q_laws_eqWriteS_l1:=by
 funext k self d
 simp only[laws_eqWriteS_l1,q_laws_eqWriteS_l1,e_laws_eqWrite_ok]
def q_laws_eqWriteS(k:Nat)(x0:(List DWrite))(x1:(List DWrite)):Option Bool:=
 (bif ((x0.length:Int) != (x1.length:Int))then some false else iter k (q_laws_eqWriteS_l1 k) (x0,x1,(0:Int)))
theorem q_laws_eqWriteS_ok: @laws_eqWriteS= @q_laws_eqWriteS:=by
 funext k x0 x1
 simp only[laws_eqWriteS,q_laws_eqWriteS,q_laws_eqWriteS_l1_ok]
def e_laws_eqWriteS:Nat→((List DWrite)×(List DWrite))→Option Bool
 |0,_=>none
 |k+1,(x0,x1)=>q_laws_eqWriteS k x0 x1
theorem e_laws_eqWriteS_ok:c_laws_eqWriteS=e_laws_eqWriteS:=by
 funext k x
 cases k with
 |zero=>rfl
 |succ k=>exact(laws_eqWriteS_run k x.1 x.2).trans (congrFun (congrFun (congrFun q_laws_eqWriteS_ok k) (x.1)) (x.2))
def q_laws_eqDisk(k:Nat)(x0:DDisk)(x1:DDisk):Option Bool:=
 (e_laws_eqStringS k (x0.1,x1.1)).bind fun y1=>
 (bif (!y1)then some false else(e_laws_eqWriteS k (x0.2,x1.2)).bind fun y2=>
 (bif (!y2)then some false else some true))
theorem q_laws_eqDisk_ok: @laws_eqDisk= @q_laws_eqDisk:=by
 funext k x0 x1
 simp only[laws_eqDisk,q_laws_eqDisk,e_laws_eqStringS_ok,e_laws_eqWriteS_ok]
def e_laws_eqDisk:Nat→(DDisk×DDisk)→Option Bool
 |0,_=>none
 |k+1,(x0,x1)=>q_laws_eqDisk k x0 x1
theorem e_laws_eqDisk_ok:c_laws_eqDisk=e_laws_eqDisk:=by
 funext k x
 cases k with
 |zero=>rfl
 |succ k=>exact(laws_eqDisk_run k x.1 x.2).trans (congrFun (congrFun (congrFun q_laws_eqDisk_ok k) (x.1)) (x.2))
def q_laws_eqQuota(k:Nat)(x0:DQuota)(x1:DQuota):Option Bool:=
 (bif (x0.1 != x1.1)then some false else(bif (x0.2 != x1.2)then some false else some true))
theorem q_laws_eqQuota_ok: @laws_eqQuota= @q_laws_eqQuota:=by
 funext k x0 x1
 rfl
def e_laws_eqQuota:Nat→(DQuota×DQuota)→Option Bool
 |0,_=>none
 |k+1,(x0,x1)=>q_laws_eqQuota k x0 x1
theorem e_laws_eqQuota_ok:c_laws_eqQuota=e_laws_eqQuota:=by
 funext k x
 cases k with
 |zero=>rfl
 |succ k=>exact(laws_eqQuota_run k x.1 x.2).trans (congrFun (congrFun (congrFun q_laws_eqQuota_ok k) (x.1)) (x.2))
def q_laws_eqQuotaS_l1(k:Nat)(self:_→Option Bool)(d:((List DQuota)×((List DQuota)×Int))):=
 (bif (decide (d.2.2<(d.1.length:Int)))then(if 0≤d.2.2 then(d.1[d.2.2.toNat]?).bind fun v0=>
 (if 0≤d.2.2 then(d.2.1[d.2.2.toNat]?).bind fun v1=>
 (e_laws_eqQuota k (v0,v1)).bind fun v2=>
 (bif (!v2)then some false else self (d.1,d.2.1,(wrapK .i64 (d.2.2+(1:Int)))))else none)else none)else some true)
theorem q_laws_eqQuotaS_l1_ok: @laws_eqQuotaS_l1= @q_laws_eqQuotaS_l1:=by
 funext k self d
 simp only[laws_eqQuotaS_l1,q_laws_eqQuotaS_l1,e_laws_eqQuota_ok]
def q_laws_eqQuotaS(k:Nat)(x0:(List DQuota))(x1:(List DQuota)):Option Bool:=
 (bif ((x0.length:Int) != (x1.length:Int))then some false else iter k (q_laws_eqQuotaS_l1 k) (x0,x1,(0:Int)))
theorem q_laws_eqQuotaS_ok: @laws_eqQuotaS= @q_laws_eqQuotaS:=by
 funext k x0 x1
 simp only[laws_eqQuotaS,q_laws_eqQuotaS,q_laws_eqQuotaS_l1_ok]
def e_laws_eqQuotaS:Nat→((List DQuota)×(List DQuota))→Option Bool
 |0,_=>none
 |k+1,(x0,x1)=>q_laws_eqQuotaS k x0 x1
theorem e_laws_eqQuotaS_ok:c_laws_eqQuotaS=e_laws_eqQuotaS:=by
 funext k x
 cases k with
 |zero=>rfl
 |succ k=>exact(laws_eqQuotaS_run k x.1 x.2).trans (congrFun (congrFun (congrFun q_laws_eqQuotaS_ok k) (x.1)) (x.2))
def q_laws_eqIntS_l1(k:Nat)(self:_→Option Bool)(d:((List Int)×((List Int)×Int))):=
 (bif (decide (d.2.2<(d.1.length:Int)))then(if 0≤d.2.2 then(d.1[d.2.2.toNat]?).bind fun v0=>
 (if 0≤d.2.2 then(d.2.1[d.2.2.toNat]?).bind fun v1=>
 (bif (v0 != v1)then some false else self (d.1,d.2.1,(wrapK .i64 (d.2.2+(1:Int)))))else none)else none)else some true)
theorem q_laws_eqIntS_l1_ok: @laws_eqIntS_l1= @q_laws_eqIntS_l1:=by
 funext k self d
 rfl
def q_laws_eqIntS(k:Nat)(x0:(List Int))(x1:(List Int)):Option Bool:=
 (bif ((x0.length:Int) != (x1.length:Int))then some false else iter k (q_laws_eqIntS_l1 k) (x0,x1,(0:Int)))
theorem q_laws_eqIntS_ok: @laws_eqIntS= @q_laws_eqIntS:=by
 funext k x0 x1
 simp only[laws_eqIntS,q_laws_eqIntS,q_laws_eqIntS_l1_ok]
def e_laws_eqIntS:Nat→((List Int)×(List Int))→Option Bool
 |0,_=>none
 |k+1,(x0,x1)=>q_laws_eqIntS k x0 x1
theorem e_laws_eqIntS_ok:c_laws_eqIntS=e_laws_eqIntS:=by
 funext k x
 cases k with
 |zero=>rfl
 |succ k=>exact(laws_eqIntS_run k x.1 x.2).trans (congrFun (congrFun (congrFun q_laws_eqIntS_ok k) (x.1)) (x.2))
def q_laws_eqAclEntry(k:Nat)(x0:DOpen)(x1:DOpen):Option Bool:=
 (bif (x0.1 != x1.1)then some false else(bif (x0.2.1 != x1.2.1)then some false else(bif (x0.2.2 != x1.2.2)then some false else some true)))
theorem q_laws_eqAclEntry_ok: @laws_eqAclEntry= @q_laws_eqAclEntry:=by
 funext k x0 x1
 rfl
def e_laws_eqAclEntry:Nat→(DOpen×DOpen)→Option Bool
 |0,_=>none
 |k+1,(x0,x1)=>q_laws_eqAclEntry k x0 x1
theorem e_laws_eqAclEntry_ok:c_laws_eqAclEntry=e_laws_eqAclEntry:=by
 funext k x
 cases k with
 |zero=>rfl
 |succ k=>exact(laws_eqAclEntry_run k x.1 x.2).trans (congrFun (congrFun (congrFun q_laws_eqAclEntry_ok k) (x.1)) (x.2))
def q_laws_eqAclEntryS_l1(k:Nat)(self:_→Option Bool)(d:((List DOpen)×((List DOpen)×Int))):=
 (bif (decide (d.2.2<(d.1.length:Int)))then(if 0≤d.2.2 then(d.1[d.2.2.toNat]?).bind fun v0=>
 (if 0≤d.2.2 then(d.2.1[d.2.2.toNat]?).bind fun v1=>
 (e_laws_eqAclEntry k (v0,v1)).bind fun v2=>
 (bif (!v2)then some false else self (d.1,d.2.1,(wrapK .i64 (d.2.2+(1:Int)))))else none)else none)else some true)
theorem q_laws_eqAclEntryS_l1_ok: @laws_eqAclEntryS_l1= @q_laws_eqAclEntryS_l1:=by
 funext k self d
 simp only[laws_eqAclEntryS_l1,q_laws_eqAclEntryS_l1,e_laws_eqAclEntry_ok]
def q_laws_eqAclEntryS(k:Nat)(x0:(List DOpen))(x1:(List DOpen)):Option Bool:=
 (bif ((x0.length:Int) != (x1.length:Int))then some false else iter k (q_laws_eqAclEntryS_l1 k) (x0,x1,(0:Int)))
theorem q_laws_eqAclEntryS_ok: @laws_eqAclEntryS= @q_laws_eqAclEntryS:=by
 funext k x0 x1
 simp only[laws_eqAclEntryS,q_laws_eqAclEntryS,q_laws_eqAclEntryS_l1_ok]
def e_laws_eqAclEntryS:Nat→((List DOpen)×(List DOpen))→Option Bool
 |0,_=>none
 |k+1,(x0,x1)=>q_laws_eqAclEntryS k x0 x1
theorem e_laws_eqAclEntryS_ok:c_laws_eqAclEntryS=e_laws_eqAclEntryS:=by
 funext k x
 cases k with
 |zero=>rfl
 |succ k=>exact(laws_eqAclEntryS_run k x.1 x.2).trans (congrFun (congrFun (congrFun q_laws_eqAclEntryS_ok k) (x.1)) (x.2))
def q_laws_eqInode(k:Nat)(x0:DInode)(x1:DInode):Option Bool:=
 (bif (x0.1 != x1.1)then some false else(bif (x0.2.1 != x1.2.1)then some false else(bif (x0.2.2.1 != x1.2.2.1)then some false else(bif (x0.2.2.2.1 != x1.2.2.2.1)then some false else(bif (x0.2.2.2.2.1 != x1.2.2.2.2.1)then some false else(bif (x0.2.2.2.2.2.1 != x1.2.2.2.2.2.1)then some false else(bif (x0.2.2.2.2.2.2.1 != x1.2.2.2.2.2.2.1)then some false else(e_laws_eqIntS k (x0.2.2.2.2.2.2.2.1,x1.2.2.2.2.2.2.2.1)).bind fun y1=>
 (bif (!y1)then some false else(e_laws_eqAclEntryS k (x0.2.2.2.2.2.2.2.2.1,x1.2.2.2.2.2.2.2.2.1)).bind fun y2=>
 (bif (!y2)then some false else(e_laws_eqAclEntryS k (x0.2.2.2.2.2.2.2.2.2,x1.2.2.2.2.2.2.2.2.2)).bind fun y3=>
 (bif (!y3)then some false else some true))))))))))
theorem q_laws_eqInode_ok: @laws_eqInode= @q_laws_eqInode:=by
 funext k x0 x1
 simp only[laws_eqInode,q_laws_eqInode,e_laws_eqAclEntryS_ok,e_laws_eqIntS_ok]
def e_laws_eqInode:Nat→(DInode×DInode)→Option Bool
 |0,_=>none
 |k+1,(x0,x1)=>q_laws_eqInode k x0 x1
theorem e_laws_eqInode_ok:c_laws_eqInode=e_laws_eqInode:=by
 funext k x
 cases k with
 |zero=>rfl
 |succ k=>exact(laws_eqInode_run k x.1 x.2).trans (congrFun (congrFun (congrFun q_laws_eqInode_ok k) (x.1)) (x.2))
def q_laws_eqInodeS_l1(k:Nat)(self:_→Option Bool)(d:((List DInode)×((List DInode)×Int))):=
 (bif (decide (d.2.2<(d.1.length:Int)))then(if 0≤d.2.2 then(d.1[d.2.2.toNat]?).bind fun v0=>
 (if 0≤d.2.2 then(d.2.1[d.2.2.toNat]?).bind fun v1=>
 (e_laws_eqInode k (v0,v1)).bind fun v2=>
 (bif (!v2)then some false else self (d.1,d.2.1,(wrapK .i64 (d.2.2+(1:Int)))))else none)else none)else some true)
theorem q_laws_eqInodeS_l1_ok: @laws_eqInodeS_l1= @q_laws_eqInodeS_l1:=by
 funext k self d
 simp only[laws_eqInodeS_l1,q_laws_eqInodeS_l1,e_laws_eqInode_ok]
def q_laws_eqInodeS(k:Nat)(x0:(List DInode))(x1:(List DInode)):Option Bool:=
 (bif ((x0.length:Int) != (x1.length:Int))then some false else iter k (q_laws_eqInodeS_l1 k) (x0,x1,(0:Int)))
theorem q_laws_eqInodeS_ok: @laws_eqInodeS= @q_laws_eqInodeS:=by
 funext k x0 x1
 simp only[laws_eqInodeS,q_laws_eqInodeS,q_laws_eqInodeS_l1_ok]
def e_laws_eqInodeS:Nat→((List DInode)×(List DInode))→Option Bool
 |0,_=>none
 |k+1,(x0,x1)=>q_laws_eqInodeS k x0 x1
theorem e_laws_eqInodeS_ok:c_laws_eqInodeS=e_laws_eqInodeS:=by
 funext k x
 cases k with
 |zero=>rfl
 |succ k=>exact(laws_eqInodeS_run k x.1 x.2).trans (congrFun (congrFun (congrFun q_laws_eqInodeS_ok k) (x.1)) (x.2))
def q_laws_eqFS(k:Nat)(x0:DFS)(x1:DFS):Option Bool:=
 (bif (x0.1 != x1.1)then some false else(e_laws_eqQuotaS k (x0.2.1,x1.2.1)).bind fun y1=>
 (bif (!y1)then some false else(e_laws_eqInodeS k (x0.2.2.1,x1.2.2.1)).bind fun y2=>
 (bif (!y2)then some false else(e_laws_eqStringS k (x0.2.2.2,x1.2.2.2)).bind fun y3=>
 (bif (!y3)then some false else some true))))
theorem q_laws_eqFS_ok: @laws_eqFS= @q_laws_eqFS:=by
 funext k x0 x1
 simp only[laws_eqFS,q_laws_eqFS,e_laws_eqInodeS_ok,e_laws_eqQuotaS_ok,e_laws_eqStringS_ok]
def e_laws_eqFS:Nat→(DFS×DFS)→Option Bool
 |0,_=>none
 |k+1,(x0,x1)=>q_laws_eqFS k x0 x1
theorem e_laws_eqFS_ok:c_laws_eqFS=e_laws_eqFS:=by
 funext k x
 cases k with
 |zero=>rfl
 |succ k=>exact(laws_eqFS_run k x.1 x.2).trans (congrFun (congrFun (congrFun q_laws_eqFS_ok k) (x.1)) (x.2))
def q_laws_eqCred(k:Nat)(x0:DCred)(x1:DCred):Option Bool:=
 (bif (x0.1 != x1.1)then some false else(bif (x0.2.1 != x1.2.1)then some false else(e_laws_eqIntS k (x0.2.2,x1.2.2)).bind fun y1=>
 (bif (!y1)then some false else some true)))
theorem q_laws_eqCred_ok: @laws_eqCred= @q_laws_eqCred:=by
 funext k x0 x1
 simp only[laws_eqCred,q_laws_eqCred,e_laws_eqIntS_ok]
def e_laws_eqCred:Nat→(DCred×DCred)→Option Bool
 |0,_=>none
 |k+1,(x0,x1)=>q_laws_eqCred k x0 x1
theorem e_laws_eqCred_ok:c_laws_eqCred=e_laws_eqCred:=by
 funext k x
 cases k with
 |zero=>rfl
 |succ k=>exact(laws_eqCred_run k x.1 x.2).trans (congrFun (congrFun (congrFun q_laws_eqCred_ok k) (x.1)) (x.2))
def q_laws_eqOpen(k:Nat)(x0:DOpen)(x1:DOpen):Option Bool:=
 (bif (x0.1 != x1.1)then some false else(bif (x0.2.1 != x1.2.1)then some false else(bif (x0.2.2 != x1.2.2)then some false else some true)))
theorem q_laws_eqOpen_ok: @laws_eqOpen= @q_laws_eqOpen:=by
 funext k x0 x1
 rfl
def e_laws_eqOpen:Nat→(DOpen×DOpen)→Option Bool
 |0,_=>none
 |k+1,(x0,x1)=>q_laws_eqOpen k x0 x1
theorem e_laws_eqOpen_ok:c_laws_eqOpen=e_laws_eqOpen:=by
 funext k x
 cases k with
 |zero=>rfl
 |succ k=>exact(laws_eqOpen_run k x.1 x.2).trans (congrFun (congrFun (congrFun q_laws_eqOpen_ok k) (x.1)) (x.2))
def q_laws_eqOpenS_l1(k:Nat)(self:_→Option Bool)(d:((List DOpen)×((List DOpen)×Int))):=
 (bif (decide (d.2.2<(d.1.length:Int)))then(if 0≤d.2.2 then(d.1[d.2.2.toNat]?).bind fun v0=>
 (if 0≤d.2.2 then(d.2.1[d.2.2.toNat]?).bind fun v1=>
 (e_laws_eqOpen k (v0,v1)).bind fun v2=>
 (bif (!v2)then some false else self (d.1,d.2.1,(wrapK .i64 (d.2.2+(1:Int)))))else none)else none)else some true)
theorem q_laws_eqOpenS_l1_ok: @laws_eqOpenS_l1= @q_laws_eqOpenS_l1:=by
 funext k self d
 simp only[laws_eqOpenS_l1,q_laws_eqOpenS_l1,e_laws_eqOpen_ok]
def q_laws_eqOpenS(k:Nat)(x0:(List DOpen))(x1:(List DOpen)):Option Bool:=
 (bif ((x0.length:Int) != (x1.length:Int))then some false else iter k (q_laws_eqOpenS_l1 k) (x0,x1,(0:Int)))
theorem q_laws_eqOpenS_ok: @laws_eqOpenS= @q_laws_eqOpenS:=by
 funext k x0 x1
 simp only[laws_eqOpenS,q_laws_eqOpenS,q_laws_eqOpenS_l1_ok]
def e_laws_eqOpenS:Nat→((List DOpen)×(List DOpen))→Option Bool
 |0,_=>none
 |k+1,(x0,x1)=>q_laws_eqOpenS k x0 x1
theorem e_laws_eqOpenS_ok:c_laws_eqOpenS=e_laws_eqOpenS:=by
 funext k x
 cases k with
 |zero=>rfl
 |succ k=>exact(laws_eqOpenS_run k x.1 x.2).trans (congrFun (congrFun (congrFun q_laws_eqOpenS_ok k) (x.1)) (x.2))
def q_laws_eqProc(k:Nat)(x0:DProc)(x1:DProc):Option Bool:=
 (e_laws_eqCred k (x0.1,x1.1)).bind fun y1=>
 (bif (!y1)then some false else(e_laws_eqOpenS k (x0.2,x1.2)).bind fun y2=>
 (bif (!y2)then some false else some true))
theorem q_laws_eqProc_ok: @laws_eqProc= @q_laws_eqProc:=by
 funext k x0 x1
 simp only[laws_eqProc,q_laws_eqProc,e_laws_eqCred_ok,e_laws_eqOpenS_ok]
def e_laws_eqProc:Nat→(DProc×DProc)→Option Bool
 |0,_=>none
 |k+1,(x0,x1)=>q_laws_eqProc k x0 x1
theorem e_laws_eqProc_ok:c_laws_eqProc=e_laws_eqProc:=by
 funext k x
 cases k with
 |zero=>rfl
 |succ k=>exact(laws_eqProc_run k x.1 x.2).trans (congrFun (congrFun (congrFun q_laws_eqProc_ok k) (x.1)) (x.2))
def q_laws_eqProcS_l1(k:Nat)(self:_→Option Bool)(d:((List DProc)×((List DProc)×Int))):=
 (bif (decide (d.2.2<(d.1.length:Int)))then(if 0≤d.2.2 then(d.1[d.2.2.toNat]?).bind fun v0=>
 (if 0≤d.2.2 then(d.2.1[d.2.2.toNat]?).bind fun v1=>
 (e_laws_eqProc k (v0,v1)).bind fun v2=>
 (bif (!v2)then some false else self (d.1,d.2.1,(wrapK .i64 (d.2.2+(1:Int)))))else none)else none)else some true)
theorem q_laws_eqProcS_l1_ok: @laws_eqProcS_l1= @q_laws_eqProcS_l1:=by
 funext k self d
 simp only[laws_eqProcS_l1,q_laws_eqProcS_l1,e_laws_eqProc_ok]
def q_laws_eqProcS(k:Nat)(x0:(List DProc))(x1:(List DProc)):Option Bool:=
 (bif ((x0.length:Int) != (x1.length:Int))then some false else iter k (q_laws_eqProcS_l1 k) (x0,x1,(0:Int)))
theorem q_laws_eqProcS_ok: @laws_eqProcS= @q_laws_eqProcS:=by
 funext k x0 x1
 simp only[laws_eqProcS,q_laws_eqProcS,q_laws_eqProcS_l1_ok]
def e_laws_eqProcS:Nat→((List DProc)×(List DProc))→Option Bool
 |0,_=>none
 |k+1,(x0,x1)=>q_laws_eqProcS k x0 x1
theorem e_laws_eqProcS_ok:c_laws_eqProcS=e_laws_eqProcS:=by
 funext k x
 cases k with
 |zero=>rfl
 |succ k=>exact(laws_eqProcS_run k x.1 x.2).trans (congrFun (congrFun (congrFun q_laws_eqProcS_ok k) (x.1)) (x.2))
def q_laws_eqSystem(k:Nat)(x0:DSystem)(x1:DSystem):Option Bool:=
 (e_laws_eqFS k (x0.1,x1.1)).bind fun y1=>
 (bif (!y1)then some false else(e_laws_eqProcS k (x0.2,x1.2)).bind fun y2=>
 (bif (!y2)then some false else some true))
theorem q_laws_eqSystem_ok: @laws_eqSystem= @q_laws_eqSystem:=by
 funext k x0 x1
 simp only[laws_eqSystem,q_laws_eqSystem,e_laws_eqFS_ok,e_laws_eqProcS_ok]
def e_laws_eqSystem:Nat→(DSystem×DSystem)→Option Bool
 |0,_=>none
 |k+1,(x0,x1)=>q_laws_eqSystem k x0 x1
theorem e_laws_eqSystem_ok:c_laws_eqSystem=e_laws_eqSystem:=by
 funext k x
 cases k with
 |zero=>rfl
 |succ k=>exact(laws_eqSystem_run k x.1 x.2).trans (congrFun (congrFun (congrFun q_laws_eqSystem_ok k) (x.1)) (x.2))
def q_laws_eqMachine(k:Nat)(x0:DMachine)(x1:DMachine):Option Bool:=
 (e_laws_eqDisk k (x0.1,x1.1)).bind fun y1=>
 (bif (!y1)then some false else(bif (x0.2.1 != x1.2.1)then some false else(e_laws_eqSystem k (x0.2.2,x1.2.2)).bind fun y2=>
 (bif (!y2)then some false else some true)))
theorem q_laws_eqMachine_ok: @laws_eqMachine= @q_laws_eqMachine:=by
 funext k x0 x1
 simp only[laws_eqMachine,q_laws_eqMachine,e_laws_eqDisk_ok,e_laws_eqSystem_ok]
def e_laws_eqMachine:Nat→(DMachine×DMachine)→Option Bool
 |0,_=>none
 |k+1,(x0,x1)=>q_laws_eqMachine k x0 x1
theorem e_laws_eqMachine_ok:c_laws_eqMachine=e_laws_eqMachine:=by
 funext k x
 cases k with
 |zero=>rfl
 |succ k=>exact(laws_eqMachine_run k x.1 x.2).trans (congrFun (congrFun (congrFun q_laws_eqMachine_ok k) (x.1)) (x.2))
def q_laws_eqConsole(k:Nat)(x0:DConsole)(x1:DConsole):Option Bool:=
 (e_laws_eqMachine k (x0.1,x1.1)).bind fun y1=>
 (bif (!y1)then some false else(bif (x0.2 != x1.2)then some false else some true))
theorem q_laws_eqConsole_ok: @laws_eqConsole= @q_laws_eqConsole:=by
 funext k x0 x1
 simp only[laws_eqConsole,q_laws_eqConsole,e_laws_eqMachine_ok]
def e_laws_eqConsole:Nat→(DConsole×DConsole)→Option Bool
 |0,_=>none
 |k+1,(x0,x1)=>q_laws_eqConsole k x0 x1
theorem e_laws_eqConsole_ok:c_laws_eqConsole=e_laws_eqConsole:=by
 funext k x
 cases k with
 |zero=>rfl
 |succ k=>exact(laws_eqConsole_run k x.1 x.2).trans (congrFun (congrFun (congrFun q_laws_eqConsole_ok k) (x.1)) (x.2))
def q_laws_markText_l1(k:Nat)(self:_→Option ByteArray)(d:DWrite):=
 (bif (decide ((0:Int)<d.1))then(if((10:Int):Int)≠0 then(if(ofBytes ([(wrapK .u8 (wrapK .i64 ((48:Int)+(d.1.tmod (10:Int)))))]:List Int)).size+d.2.size≤9223372036854775807 then(if((10:Int):Int)≠0 then self ((wrapK .i64 (d.1.tdiv (10:Int))),((ofBytes ([(wrapK .u8 (wrapK .i64 ((48:Int)+(d.1.tmod (10:Int)))))]:List Int))++d.2))else none)else none)else none)else(if(⟨#[109]⟩:ByteArray).size+d.2.size≤9223372036854775807 then some ((⟨#[109]⟩:ByteArray)++d.2)else none))
theorem q_laws_markText_l1_ok: @laws_markText_l1= @q_laws_markText_l1:=by
 funext k self d
 rfl
def q_laws_markText(k:Nat)(x0:Int):Option ByteArray:=
 (bif (decide (x0≤(0:Int)))then some (⟨#[109,48]⟩:ByteArray)else iter k (q_laws_markText_l1 k) (x0,(⟨#[]⟩:ByteArray)))
theorem q_laws_markText_ok: @laws_markText= @q_laws_markText:=by
 funext k x0
 simp only[laws_markText,q_laws_markText,q_laws_markText_l1_ok]
def e_laws_markText:Nat→Int→Option ByteArray
 |0,_=>none
 |k+1,x0=>q_laws_markText k x0
theorem e_laws_markText_ok:c_laws_markText=e_laws_markText:=by
 funext k x
 cases k with
 |zero=>rfl
 |succ k=>exact(laws_markText_run k x).trans (congrFun (congrFun q_laws_markText_ok k) (x))
def q_laws_heldStringS_l1(k:Nat)(self:_→Option Int)(d:((List ByteArray)×DQuota)):=
 (bif (decide (d.2.2<(d.1.length:Int)))then(if 0≤d.2.2 then(d.1[d.2.2.toNat]?).bind fun v0=>
 (e_laws_markText k d.2.1).bind fun v1=>
 (bif (!(eqS v0 v1))then some (-1:Int)else self (d.1,(wrapK .i64 (d.2.1+(1:Int))),(wrapK .i64 (d.2.2+(1:Int)))))else none)else some d.2.1)
theorem q_laws_heldStringS_l1_ok: @laws_heldStringS_l1= @q_laws_heldStringS_l1:=by
 funext k self d
 simp only[laws_heldStringS_l1,q_laws_heldStringS_l1,e_laws_markText_ok]
def q_laws_heldStringS(k:Nat)(x0:(List ByteArray))(x1:Int):Option Int:=
 iter k (q_laws_heldStringS_l1 k) (x0,x1,(0:Int))
theorem q_laws_heldStringS_ok: @laws_heldStringS= @q_laws_heldStringS:=by
 funext k x0 x1
 simp only[laws_heldStringS,q_laws_heldStringS,q_laws_heldStringS_l1_ok]
def e_laws_heldStringS:Nat→((List ByteArray)×Int)→Option Int
 |0,_=>none
 |k+1,(x0,x1)=>q_laws_heldStringS k x0 x1
theorem e_laws_heldStringS_ok:c_laws_heldStringS=e_laws_heldStringS:=by
 funext k x
 cases k with
 |zero=>rfl
 |succ k=>exact(laws_heldStringS_run k x.1 x.2).trans (congrFun (congrFun (congrFun q_laws_heldStringS_ok k) (x.1)) (x.2))
def q_laws_heldWriteS_l1(k:Nat)(self:_→Option Int)(d:((List DWrite)×DQuota)):=
 (bif (decide (d.2.2<(d.1.length:Int)))then(if 0≤d.2.2 then(d.1[d.2.2.toNat]?).bind fun v0=>
 (bif (v0.1 != d.2.1)then some (-1:Int)else(if 0≤d.2.2 then(d.1[d.2.2.toNat]?).bind fun v1=>
 (e_laws_markText k (wrapK .i64 (d.2.1+(1:Int)))).bind fun v2=>
 (bif (!(eqS v1.2 v2))then some (-1:Int)else self (d.1,(wrapK .i64 ((wrapK .i64 (d.2.1+(1:Int)))+(1:Int))),(wrapK .i64 (d.2.2+(1:Int)))))else none))else none)else some d.2.1)
theorem q_laws_heldWriteS_l1_ok: @laws_heldWriteS_l1= @q_laws_heldWriteS_l1:=by
 funext k self d
 simp only[laws_heldWriteS_l1,q_laws_heldWriteS_l1,e_laws_markText_ok]
def q_laws_heldWriteS(k:Nat)(x0:(List DWrite))(x1:Int):Option Int:=
 iter k (q_laws_heldWriteS_l1 k) (x0,x1,(0:Int))
theorem q_laws_heldWriteS_ok: @laws_heldWriteS= @q_laws_heldWriteS:=by
 funext k x0 x1
 simp only[laws_heldWriteS,q_laws_heldWriteS,q_laws_heldWriteS_l1_ok]
def e_laws_heldWriteS:Nat→((List DWrite)×Int)→Option Int
 |0,_=>none
 |k+1,(x0,x1)=>q_laws_heldWriteS k x0 x1
theorem e_laws_heldWriteS_ok:c_laws_heldWriteS=e_laws_heldWriteS:=by
 funext k x
 cases k with
 |zero=>rfl
 |succ k=>exact(laws_heldWriteS_run k x.1 x.2).trans (congrFun (congrFun (congrFun q_laws_heldWriteS_ok k) (x.1)) (x.2))
def q_laws_heldDisk(k:Nat)(x0:DDisk)(x1:Int):Option Int:=
 (e_laws_heldStringS k (x0.1,x1)).bind fun y1=>
 (bif (decide (y1<(0:Int)))then some (-1:Int)else(e_laws_heldWriteS k (x0.2,y1)).bind fun y2=>
 (bif (decide (y2<(0:Int)))then some (-1:Int)else some y2))
theorem q_laws_heldDisk_ok: @laws_heldDisk= @q_laws_heldDisk:=by
 funext k x0 x1
 simp only[laws_heldDisk,q_laws_heldDisk,e_laws_heldStringS_ok,e_laws_heldWriteS_ok]
def e_laws_heldDisk:Nat→(DDisk×Int)→Option Int
 |0,_=>none
 |k+1,(x0,x1)=>q_laws_heldDisk k x0 x1
theorem e_laws_heldDisk_ok:c_laws_heldDisk=e_laws_heldDisk:=by
 funext k x
 cases k with
 |zero=>rfl
 |succ k=>exact(laws_heldDisk_run k x.1 x.2).trans (congrFun (congrFun (congrFun q_laws_heldDisk_ok k) (x.1)) (x.2))
def q_laws_heldQuotaS_l1(k:Nat)(self:_→Option Int)(d:((List DQuota)×DQuota)):=
 (bif (decide (d.2.2<(d.1.length:Int)))then(if 0≤d.2.2 then(d.1[d.2.2.toNat]?).bind fun v0=>
 (bif (v0.1 != d.2.1)then some (-1:Int)else(if 0≤d.2.2 then(d.1[d.2.2.toNat]?).bind fun v1=>
 (bif (v1.2 != (wrapK .i64 (d.2.1+(1:Int))))then some (-1:Int)else self (d.1,(wrapK .i64 ((wrapK .i64 (d.2.1+(1:Int)))+(1:Int))),(wrapK .i64 (d.2.2+(1:Int)))))else none))else none)else some d.2.1)
theorem q_laws_heldQuotaS_l1_ok: @laws_heldQuotaS_l1= @q_laws_heldQuotaS_l1:=by
 funext k self d
 rfl
def q_laws_heldQuotaS(k:Nat)(x0:(List DQuota))(x1:Int):Option Int:=
 iter k (q_laws_heldQuotaS_l1 k) (x0,x1,(0:Int))
theorem q_laws_heldQuotaS_ok: @laws_heldQuotaS= @q_laws_heldQuotaS:=by
 funext k x0 x1
 simp only[laws_heldQuotaS,q_laws_heldQuotaS,q_laws_heldQuotaS_l1_ok]
def e_laws_heldQuotaS:Nat→((List DQuota)×Int)→Option Int
 |0,_=>none
 |k+1,(x0,x1)=>q_laws_heldQuotaS k x0 x1
theorem e_laws_heldQuotaS_ok:c_laws_heldQuotaS=e_laws_heldQuotaS:=by
 funext k x
 cases k with
 |zero=>rfl
 |succ k=>exact(laws_heldQuotaS_run k x.1 x.2).trans (congrFun (congrFun (congrFun q_laws_heldQuotaS_ok k) (x.1)) (x.2))
def q_laws_heldIntS_l1(k:Nat)(self:_→Option Int)(d:((List Int)×DQuota)):=
 (bif (decide (d.2.2<(d.1.length:Int)))then(if 0≤d.2.2 then(d.1[d.2.2.toNat]?).bind fun v0=>
 (bif (v0 != d.2.1)then some (-1:Int)else self (d.1,(wrapK .i64 (d.2.1+(1:Int))),(wrapK .i64 (d.2.2+(1:Int)))))else none)else some d.2.1)
theorem q_laws_heldIntS_l1_ok: @laws_heldIntS_l1= @q_laws_heldIntS_l1:=by
 funext k self d
 rfl
def q_laws_heldIntS(k:Nat)(x0:(List Int))(x1:Int):Option Int:=
 iter k (q_laws_heldIntS_l1 k) (x0,x1,(0:Int))
theorem q_laws_heldIntS_ok: @laws_heldIntS= @q_laws_heldIntS:=by
 funext k x0 x1
 simp only[laws_heldIntS,q_laws_heldIntS,q_laws_heldIntS_l1_ok]
def e_laws_heldIntS:Nat→((List Int)×Int)→Option Int
 |0,_=>none
 |k+1,(x0,x1)=>q_laws_heldIntS k x0 x1
theorem e_laws_heldIntS_ok:c_laws_heldIntS=e_laws_heldIntS:=by
 funext k x
 cases k with
 |zero=>rfl
 |succ k=>exact(laws_heldIntS_run k x.1 x.2).trans (congrFun (congrFun (congrFun q_laws_heldIntS_ok k) (x.1)) (x.2))
def q_laws_heldAclEntryS_l1(k:Nat)(self:_→Option Int)(d:((List DOpen)×DQuota)):=
 (bif (decide (d.2.2<(d.1.length:Int)))then(if 0≤d.2.2 then(d.1[d.2.2.toNat]?).bind fun v0=>
 (bif (v0.1 != d.2.1)then some (-1:Int)else(if 0≤d.2.2 then(d.1[d.2.2.toNat]?).bind fun v1=>
 (bif (v1.2.1 != (wrapK .i64 (d.2.1+(1:Int))))then some (-1:Int)else(if 0≤d.2.2 then(d.1[d.2.2.toNat]?).bind fun v2=>
 (bif (v2.2.2 != (wrapK .i64 ((wrapK .i64 (d.2.1+(1:Int)))+(1:Int))))then some (-1:Int)else self (d.1,(wrapK .i64 ((wrapK .i64 ((wrapK .i64 (d.2.1+(1:Int)))+(1:Int)))+(1:Int))),(wrapK .i64 (d.2.2+(1:Int)))))else none))else none))else none)else some d.2.1)
theorem q_laws_heldAclEntryS_l1_ok: @laws_heldAclEntryS_l1= @q_laws_heldAclEntryS_l1:=by
 funext k self d
 rfl
def q_laws_heldAclEntryS(k:Nat)(x0:(List DOpen))(x1:Int):Option Int:=
 iter k (q_laws_heldAclEntryS_l1 k) (x0,x1,(0:Int))
theorem q_laws_heldAclEntryS_ok: @laws_heldAclEntryS= @q_laws_heldAclEntryS:=by
 funext k x0 x1
 simp only[laws_heldAclEntryS,q_laws_heldAclEntryS,q_laws_heldAclEntryS_l1_ok]
def e_laws_heldAclEntryS:Nat→((List DOpen)×Int)→Option Int
 |0,_=>none
 |k+1,(x0,x1)=>q_laws_heldAclEntryS k x0 x1
theorem e_laws_heldAclEntryS_ok:c_laws_heldAclEntryS=e_laws_heldAclEntryS:=by
 funext k x
 cases k with
 |zero=>rfl
 |succ k=>exact(laws_heldAclEntryS_run k x.1 x.2).trans (congrFun (congrFun (congrFun q_laws_heldAclEntryS_ok k) (x.1)) (x.2))
def q_laws_heldInodeS_l1(k:Nat)(self:_→Option Int)(d:((List DInode)×DQuota)):=
 (bif (decide (d.2.2<(d.1.length:Int)))then(if 0≤d.2.2 then(d.1[d.2.2.toNat]?).bind fun v0=>
 (bif (v0.1 != d.2.1)then some (-1:Int)else(if 0≤d.2.2 then(d.1[d.2.2.toNat]?).bind fun v1=>
 (bif (v1.2.1 != (wrapK .i64 (d.2.1+(1:Int))))then some (-1:Int)else(if 0≤d.2.2 then(d.1[d.2.2.toNat]?).bind fun v2=>
 (bif (v2.2.2.1 != (wrapK .i64 ((wrapK .i64 (d.2.1+(1:Int)))+(1:Int))))then some (-1:Int)else(if 0≤d.2.2 then(d.1[d.2.2.toNat]?).bind fun v3=>
 (bif (v3.2.2.2.1 != (wrapK .i64 ((wrapK .i64 ((wrapK .i64 (d.2.1+(1:Int)))+(1:Int)))+(1:Int))))then some (-1:Int)else(if 0≤d.2.2 then(d.1[d.2.2.toNat]?).bind fun v4=>
 (bif (v4.2.2.2.2.1 != (wrapK .i64 ((wrapK .i64 ((wrapK .i64 ((wrapK .i64 (d.2.1+(1:Int)))+(1:Int)))+(1:Int)))+(1:Int))))then some (-1:Int)else(if 0≤d.2.2 then(d.1[d.2.2.toNat]?).bind fun v5=>
 (bif (v5.2.2.2.2.2.1 != (wrapK .i64 ((wrapK .i64 ((wrapK .i64 ((wrapK .i64 ((wrapK .i64 (d.2.1+(1:Int)))+(1:Int)))+(1:Int)))+(1:Int)))+(1:Int))))then some (-1:Int)else(if 0≤d.2.2 then(d.1[d.2.2.toNat]?).bind fun v6=>
 (bif (v6.2.2.2.2.2.2.1 != (wrapK .i64 ((wrapK .i64 ((wrapK .i64 ((wrapK .i64 ((wrapK .i64 ((wrapK .i64 (d.2.1+(1:Int)))+(1:Int)))+(1:Int)))+(1:Int)))+(1:Int)))+(1:Int))))then some (-1:Int)else(if 0≤d.2.2 then(d.1[d.2.2.toNat]?).bind fun v7=>
 (e_laws_heldIntS k (v7.2.2.2.2.2.2.2.1,(wrapK .i64 ((wrapK .i64 ((wrapK .i64 ((wrapK .i64 ((wrapK .i64 ((wrapK .i64 ((wrapK .i64 (d.2.1+(1:Int)))+(1:Int)))+(1:Int)))+(1:Int)))+(1:Int)))+(1:Int)))+(1:Int))))).bind fun v8=>
 (bif (decide (v8<(0:Int)))then some (-1:Int)else(if 0≤d.2.2 then(d.1[d.2.2.toNat]?).bind fun v9=>
 (e_laws_heldAclEntryS k (v9.2.2.2.2.2.2.2.2.1,v8)).bind fun v10=>
 (bif (decide (v10<(0:Int)))then some (-1:Int)else(if 0≤d.2.2 then(d.1[d.2.2.toNat]?).bind fun v11=>
 (e_laws_heldAclEntryS k (v11.2.2.2.2.2.2.2.2.2,v10)).bind fun v12=>
 (bif (decide (v12<(0:Int)))then some (-1:Int)else self (d.1,v12,(wrapK .i64 (d.2.2+(1:Int)))))else none))else none))else none))else none))else none))else none))else none))else none))else none))else none)else some d.2.1)
theorem q_laws_heldInodeS_l1_ok: @laws_heldInodeS_l1= @q_laws_heldInodeS_l1:=by
 funext k self d
 simp only[laws_heldInodeS_l1,q_laws_heldInodeS_l1,e_laws_heldAclEntryS_ok,e_laws_heldIntS_ok]
def q_laws_heldInodeS(k:Nat)(x0:(List DInode))(x1:Int):Option Int:=
 iter k (q_laws_heldInodeS_l1 k) (x0,x1,(0:Int))
theorem q_laws_heldInodeS_ok: @laws_heldInodeS= @q_laws_heldInodeS:=by
 funext k x0 x1
 simp only[laws_heldInodeS,q_laws_heldInodeS,q_laws_heldInodeS_l1_ok]
def e_laws_heldInodeS:Nat→((List DInode)×Int)→Option Int
 |0,_=>none
 |k+1,(x0,x1)=>q_laws_heldInodeS k x0 x1
theorem e_laws_heldInodeS_ok:c_laws_heldInodeS=e_laws_heldInodeS:=by
 funext k x
 cases k with
 |zero=>rfl
 |succ k=>exact(laws_heldInodeS_run k x.1 x.2).trans (congrFun (congrFun (congrFun q_laws_heldInodeS_ok k) (x.1)) (x.2))
def q_laws_heldFS(k:Nat)(x0:DFS)(x1:Int):Option Int:=
 (e_laws_heldQuotaS k (x0.2.1,x1)).bind fun y1=>
 (bif (decide (y1<(0:Int)))then some (-1:Int)else(e_laws_heldInodeS k (x0.2.2.1,y1)).bind fun y2=>
 (bif (decide (y2<(0:Int)))then some (-1:Int)else(e_laws_heldStringS k (x0.2.2.2,y2)).bind fun y3=>
 (bif (decide (y3<(0:Int)))then some (-1:Int)else some y3)))
theorem q_laws_heldFS_ok: @laws_heldFS= @q_laws_heldFS:=by
 funext k x0 x1
 simp only[laws_heldFS,q_laws_heldFS,e_laws_heldInodeS_ok,e_laws_heldQuotaS_ok,e_laws_heldStringS_ok]
def e_laws_heldFS:Nat→(DFS×Int)→Option Int
 |0,_=>none
 |k+1,(x0,x1)=>q_laws_heldFS k x0 x1
theorem e_laws_heldFS_ok:c_laws_heldFS=e_laws_heldFS:=by
 funext k x
 cases k with
 |zero=>rfl
 |succ k=>exact(laws_heldFS_run k x.1 x.2).trans (congrFun (congrFun (congrFun q_laws_heldFS_ok k) (x.1)) (x.2))
def q_laws_heldOpenS_l1(k:Nat)(self:_→Option Int)(d:((List DOpen)×DQuota)):=
 (bif (decide (d.2.2<(d.1.length:Int)))then(if 0≤d.2.2 then(d.1[d.2.2.toNat]?).bind fun v0=>
 (bif (v0.1 != d.2.1)then some (-1:Int)else(if 0≤d.2.2 then(d.1[d.2.2.toNat]?).bind fun v1=>
 (bif (v1.2.1 != (wrapK .i64 (d.2.1+(1:Int))))then some (-1:Int)else(if 0≤d.2.2 then(d.1[d.2.2.toNat]?).bind fun v2=>
 (bif (v2.2.2 != (wrapK .i64 ((wrapK .i64 (d.2.1+(1:Int)))+(1:Int))))then some (-1:Int)else self (d.1,(wrapK .i64 ((wrapK .i64 ((wrapK .i64 (d.2.1+(1:Int)))+(1:Int)))+(1:Int))),(wrapK .i64 (d.2.2+(1:Int)))))else none))else none))else none)else some d.2.1)
theorem q_laws_heldOpenS_l1_ok: @laws_heldOpenS_l1= @q_laws_heldOpenS_l1:=by
 funext k self d
 rfl
def q_laws_heldOpenS(k:Nat)(x0:(List DOpen))(x1:Int):Option Int:=
 iter k (q_laws_heldOpenS_l1 k) (x0,x1,(0:Int))
theorem q_laws_heldOpenS_ok: @laws_heldOpenS= @q_laws_heldOpenS:=by
 funext k x0 x1
 simp only[laws_heldOpenS,q_laws_heldOpenS,q_laws_heldOpenS_l1_ok]
def e_laws_heldOpenS:Nat→((List DOpen)×Int)→Option Int
 |0,_=>none
 |k+1,(x0,x1)=>q_laws_heldOpenS k x0 x1
theorem e_laws_heldOpenS_ok:c_laws_heldOpenS=e_laws_heldOpenS:=by
 funext k x
 cases k with
 |zero=>rfl
 |succ k=>exact(laws_heldOpenS_run k x.1 x.2).trans (congrFun (congrFun (congrFun q_laws_heldOpenS_ok k) (x.1)) (x.2))
def q_laws_heldProcS_l1(k:Nat)(self:_→Option Int)(d:((List DProc)×DQuota)):=
 (bif (decide (d.2.2<(d.1.length:Int)))then(if 0≤d.2.2 then(d.1[d.2.2.toNat]?).bind fun v0=>
 (bif (v0.1.1 != d.2.1)then some (-1:Int)else(if 0≤d.2.2 then(d.1[d.2.2.toNat]?).bind fun v1=>
 (bif (v1.1.2.1 != (wrapK .i64 (d.2.1+(1:Int))))then some (-1:Int)else(if 0≤d.2.2 then(d.1[d.2.2.toNat]?).bind fun v2=>
 (e_laws_heldIntS k (v2.1.2.2,(wrapK .i64 ((wrapK .i64 (d.2.1+(1:Int)))+(1:Int))))).bind fun v3=>
 (bif (decide (v3<(0:Int)))then some (-1:Int)else(if 0≤d.2.2 then(d.1[d.2.2.toNat]?).bind fun v4=>
 (e_laws_heldOpenS k (v4.2,v3)).bind fun v5=>
 (bif (decide (v5<(0:Int)))then some (-1:Int)else self (d.1,v5,(wrapK .i64 (d.2.2+(1:Int)))))else none))else none))else none))else none)else some d.2.1)
theorem q_laws_heldProcS_l1_ok: @laws_heldProcS_l1= @q_laws_heldProcS_l1:=by
 funext k self d
 simp only[laws_heldProcS_l1,q_laws_heldProcS_l1,e_laws_heldIntS_ok,e_laws_heldOpenS_ok]
def q_laws_heldProcS(k:Nat)(x0:(List DProc))(x1:Int):Option Int:=
 iter k (q_laws_heldProcS_l1 k) (x0,x1,(0:Int))
theorem q_laws_heldProcS_ok: @laws_heldProcS= @q_laws_heldProcS:=by
 funext k x0 x1
 simp only[laws_heldProcS,q_laws_heldProcS,q_laws_heldProcS_l1_ok]
def e_laws_heldProcS:Nat→((List DProc)×Int)→Option Int
 |0,_=>none
 |k+1,(x0,x1)=>q_laws_heldProcS k x0 x1
theorem e_laws_heldProcS_ok:c_laws_heldProcS=e_laws_heldProcS:=by
 funext k x
 cases k with
 |zero=>rfl
 |succ k=>exact(laws_heldProcS_run k x.1 x.2).trans (congrFun (congrFun (congrFun q_laws_heldProcS_ok k) (x.1)) (x.2))
def q_laws_heldSystem(k:Nat)(x0:DSystem)(x1:Int):Option Int:=
 (e_laws_heldFS k (x0.1,x1)).bind fun y1=>
 (bif (decide (y1<(0:Int)))then some (-1:Int)else(e_laws_heldProcS k (x0.2,y1)).bind fun y2=>
 (bif (decide (y2<(0:Int)))then some (-1:Int)else some y2))
theorem q_laws_heldSystem_ok: @laws_heldSystem= @q_laws_heldSystem:=by
 funext k x0 x1
 simp only[laws_heldSystem,q_laws_heldSystem,e_laws_heldFS_ok,e_laws_heldProcS_ok]
def e_laws_heldSystem:Nat→(DSystem×Int)→Option Int
 |0,_=>none
 |k+1,(x0,x1)=>q_laws_heldSystem k x0 x1
theorem e_laws_heldSystem_ok:c_laws_heldSystem=e_laws_heldSystem:=by
 funext k x
 cases k with
 |zero=>rfl
 |succ k=>exact(laws_heldSystem_run k x.1 x.2).trans (congrFun (congrFun (congrFun q_laws_heldSystem_ok k) (x.1)) (x.2))
def q_laws_heldMachine(k:Nat)(x0:DMachine)(x1:Int):Option Int:=
 (e_laws_heldDisk k (x0.1,x1)).bind fun y1=>
 (bif (decide (y1<(0:Int)))then some (-1:Int)else(e_laws_heldSystem k (x0.2.2,y1)).bind fun y2=>
 (bif (decide (y2<(0:Int)))then some (-1:Int)else some y2))
theorem q_laws_heldMachine_ok: @laws_heldMachine= @q_laws_heldMachine:=by
 funext k x0 x1
 simp only[laws_heldMachine,q_laws_heldMachine,e_laws_heldDisk_ok,e_laws_heldSystem_ok]
def e_laws_heldMachine:Nat→DConsole→Option Int
 |0,_=>none
 |k+1,(x0,x1)=>q_laws_heldMachine k x0 x1
theorem e_laws_heldMachine_ok:c_laws_heldMachine=e_laws_heldMachine:=by
 funext k x
 cases k with
 |zero=>rfl
 |succ k=>exact(laws_heldMachine_run k x.1 x.2).trans (congrFun (congrFun (congrFun q_laws_heldMachine_ok k) (x.1)) (x.2))
def q_laws_heldConsole(k:Nat)(x0:DConsole)(x1:Int):Option Int:=
 (e_laws_heldMachine k (x0.1,x1)).bind fun y1=>
 (bif (decide (y1<(0:Int)))then some (-1:Int)else some y1)
theorem q_laws_heldConsole_ok: @laws_heldConsole= @q_laws_heldConsole:=by
 funext k x0 x1
 simp only[laws_heldConsole,q_laws_heldConsole,e_laws_heldMachine_ok]
def e_laws_heldConsole:Nat→(DConsole×Int)→Option Int
 |0,_=>none
 |k+1,(x0,x1)=>q_laws_heldConsole k x0 x1
theorem e_laws_heldConsole_ok:c_laws_heldConsole=e_laws_heldConsole:=by
 funext k x
 cases k with
 |zero=>rfl
 |succ k=>exact(laws_heldConsole_run k x.1 x.2).trans (congrFun (congrFun (congrFun q_laws_heldConsole_ok k) (x.1)) (x.2))
def q_laws_markQuotaS_l1(k:Nat)(self:_→Option (Int×(List DQuota)))(d:(Unit×(Int×(Int×(List DQuota))))):=
 (bif (decide (d.2.2.1<(d.2.2.2.length:Int)))then(if 0≤d.2.2.1 then(if d.2.2.1<(d.2.2.2.length:Int)then(d.2.2.2[d.2.2.1.toNat]?).bind fun v0=>
 (if 0≤d.2.2.1 then(if d.2.2.1<(((d.2.2.2.set d.2.2.1.toNat (d.2.1,v0.2)).length:Nat):Int)then((d.2.2.2.set d.2.2.1.toNat (d.2.1,v0.2))[d.2.2.1.toNat]?).bind fun v1=>
 self ((),(wrapK .i64 ((wrapK .i64 (d.2.1+(1:Int)))+(1:Int))),(wrapK .i64 (d.2.2.1+(1:Int))),((d.2.2.2.set d.2.2.1.toNat (d.2.1,v0.2)).set d.2.2.1.toNat (v1.1,(wrapK .i64 (d.2.1+(1:Int))))))else none)else none)else none)else none)else some (d.2.1,d.2.2.2))
theorem q_laws_markQuotaS_l1_ok: @laws_markQuotaS_l1= @q_laws_markQuotaS_l1:=by
 funext k self d
 rfl
def q_laws_markQuotaS(k:Nat)(x0:(List DQuota))(x1:Int):Option (Int×(List DQuota)):=
 iter k (q_laws_markQuotaS_l1 k) ((),x1,(0:Int),x0)
theorem q_laws_markQuotaS_ok: @laws_markQuotaS= @q_laws_markQuotaS:=by
 funext k x0 x1
 simp only[laws_markQuotaS,q_laws_markQuotaS,q_laws_markQuotaS_l1_ok]
def e_laws_markQuotaS:Nat→((List DQuota)×Int)→Option (Int×(List DQuota))
 |0,_=>none
 |k+1,(x0,x1)=>q_laws_markQuotaS k x0 x1
theorem e_laws_markQuotaS_ok:c_laws_markQuotaS=e_laws_markQuotaS:=by
 funext k x
 cases k with
 |zero=>rfl
 |succ k=>exact(laws_markQuotaS_run k x.1 x.2).trans (congrFun (congrFun (congrFun q_laws_markQuotaS_ok k) (x.1)) (x.2))
def q_laws_markIntS_l1(k:Nat)(self:_→Option (Int×(List Int)))(d:(Unit×DCred)):=
 (bif (decide (d.2.2.1<(d.2.2.2.length:Int)))then(if 0≤d.2.2.1 then(if d.2.2.1<(d.2.2.2.length:Int)then(d.2.2.2[d.2.2.1.toNat]?).bind fun v0=>
 self ((),(wrapK .i64 (d.2.1+(1:Int))),(wrapK .i64 (d.2.2.1+(1:Int))),(d.2.2.2.set d.2.2.1.toNat d.2.1))else none)else none)else some (d.2.1,d.2.2.2))
theorem q_laws_markIntS_l1_ok: @laws_markIntS_l1= @q_laws_markIntS_l1:=by
 funext k self d
 rfl
def q_laws_markIntS(k:Nat)(x0:(List Int))(x1:Int):Option (Int×(List Int)):=
 iter k (q_laws_markIntS_l1 k) ((),x1,(0:Int),x0)
theorem q_laws_markIntS_ok: @laws_markIntS= @q_laws_markIntS:=by
 funext k x0 x1
 simp only[laws_markIntS,q_laws_markIntS,q_laws_markIntS_l1_ok]
def e_laws_markIntS:Nat→((List Int)×Int)→Option (Int×(List Int))
 |0,_=>none
 |k+1,(x0,x1)=>q_laws_markIntS k x0 x1
theorem e_laws_markIntS_ok:c_laws_markIntS=e_laws_markIntS:=by
 funext k x
 cases k with
 |zero=>rfl
 |succ k=>exact(laws_markIntS_run k x.1 x.2).trans (congrFun (congrFun (congrFun q_laws_markIntS_ok k) (x.1)) (x.2))
def q_laws_markAclEntryS_l1(k:Nat)(self:_→Option (Int×(List DOpen)))(d:(Unit×(Int×(Int×(List DOpen))))):=
 (bif (decide (d.2.2.1<(d.2.2.2.length:Int)))then(if 0≤d.2.2.1 then(if d.2.2.1<(d.2.2.2.length:Int)then(d.2.2.2[d.2.2.1.toNat]?).bind fun v0=>
 (if 0≤d.2.2.1 then(if d.2.2.1<(((d.2.2.2.set d.2.2.1.toNat (d.2.1,v0.2)).length:Nat):Int)then((d.2.2.2.set d.2.2.1.toNat (d.2.1,v0.2))[d.2.2.1.toNat]?).bind fun v1=>
 (if 0≤d.2.2.1 then(if d.2.2.1<((((d.2.2.2.set d.2.2.1.toNat (d.2.1,v0.2)).set d.2.2.1.toNat (v1.1,(wrapK .i64 (d.2.1+(1:Int))),v1.2.2)).length:Nat):Int)then(((d.2.2.2.set d.2.2.1.toNat (d.2.1,v0.2)).set d.2.2.1.toNat (v1.1,(wrapK .i64 (d.2.1+(1:Int))),v1.2.2))[d.2.2.1.toNat]?).bind fun v2=>
 self ((),(wrapK .i64 ((wrapK .i64 ((wrapK .i64 (d.2.1+(1:Int)))+(1:Int)))+(1:Int))),(wrapK .i64 (d.2.2.1+(1:Int))),(((d.2.2.2.set d.2.2.1.toNat (d.2.1,v0.2)).set d.2.2.1.toNat (v1.1,(wrapK .i64 (d.2.1+(1:Int))),v1.2.2)).set d.2.2.1.toNat (v2.1,v2.2.1,(wrapK .i64 ((wrapK .i64 (d.2.1+(1:Int)))+(1:Int))))))else none)else none)else none)else none)else none)else none)else some (d.2.1,d.2.2.2))
theorem q_laws_markAclEntryS_l1_ok: @laws_markAclEntryS_l1= @q_laws_markAclEntryS_l1:=by
 funext k self d
 rfl
def q_laws_markAclEntryS(k:Nat)(x0:(List DOpen))(x1:Int):Option (Int×(List DOpen)):=
 iter k (q_laws_markAclEntryS_l1 k) ((),x1,(0:Int),x0)
theorem q_laws_markAclEntryS_ok: @laws_markAclEntryS= @q_laws_markAclEntryS:=by
 funext k x0 x1
 simp only[laws_markAclEntryS,q_laws_markAclEntryS,q_laws_markAclEntryS_l1_ok]
def e_laws_markAclEntryS:Nat→((List DOpen)×Int)→Option (Int×(List DOpen))
 |0,_=>none
 |k+1,(x0,x1)=>q_laws_markAclEntryS k x0 x1
theorem e_laws_markAclEntryS_ok:c_laws_markAclEntryS=e_laws_markAclEntryS:=by
 funext k x
 cases k with
 |zero=>rfl
 |succ k=>exact(laws_markAclEntryS_run k x.1 x.2).trans (congrFun (congrFun (congrFun q_laws_markAclEntryS_ok k) (x.1)) (x.2))
def q_laws_markInodeS_l1(k:Nat)(self:_→Option (Int×(List DInode)))(d:(Unit×(Int×(Int×(List DInode))))):=
 (bif (decide (d.2.2.1<(d.2.2.2.length:Int)))then(if 0≤d.2.2.1 then(if d.2.2.1<(d.2.2.2.length:Int)then(d.2.2.2[d.2.2.1.toNat]?).bind fun v0=>
 (if 0≤d.2.2.1 then(if d.2.2.1<(((d.2.2.2.set d.2.2.1.toNat (d.2.1,v0.2)).length:Nat):Int)then((d.2.2.2.set d.2.2.1.toNat (d.2.1,v0.2))[d.2.2.1.toNat]?).bind fun v1=>
 (if 0≤d.2.2.1 then(if d.2.2.1<((((d.2.2.2.set d.2.2.1.toNat (d.2.1,v0.2)).set d.2.2.1.toNat (v1.1,(wrapK .i64 (d.2.1+(1:Int))),v1.2.2)).length:Nat):Int)then(((d.2.2.2.set d.2.2.1.toNat (d.2.1,v0.2)).set d.2.2.1.toNat (v1.1,(wrapK .i64 (d.2.1+(1:Int))),v1.2.2))[d.2.2.1.toNat]?).bind fun v2=>
 (if 0≤d.2.2.1 then(if d.2.2.1<(((((d.2.2.2.set d.2.2.1.toNat (d.2.1,v0.2)).set d.2.2.1.toNat (v1.1,(wrapK .i64 (d.2.1+(1:Int))),v1.2.2)).set d.2.2.1.toNat (v2.1,v2.2.1,(wrapK .i64 ((wrapK .i64 (d.2.1+(1:Int)))+(1:Int))),v2.2.2.2)).length:Nat):Int)then((((d.2.2.2.set d.2.2.1.toNat (d.2.1,v0.2)).set d.2.2.1.toNat (v1.1,(wrapK .i64 (d.2.1+(1:Int))),v1.2.2)).set d.2.2.1.toNat (v2.1,v2.2.1,(wrapK .i64 ((wrapK .i64 (d.2.1+(1:Int)))+(1:Int))),v2.2.2.2))[d.2.2.1.toNat]?).bind fun v3=>
 (if 0≤d.2.2.1 then(if d.2.2.1<((((((d.2.2.2.set d.2.2.1.toNat (d.2.1,v0.2)).set d.2.2.1.toNat (v1.1,(wrapK .i64 (d.2.1+(1:Int))),v1.2.2)).set d.2.2.1.toNat (v2.1,v2.2.1,(wrapK .i64 ((wrapK .i64 (d.2.1+(1:Int)))+(1:Int))),v2.2.2.2)).set d.2.2.1.toNat (v3.1,v3.2.1,v3.2.2.1,(wrapK .i64 ((wrapK .i64 ((wrapK .i64 (d.2.1+(1:Int)))+(1:Int)))+(1:Int))),v3.2.2.2.2)).length:Nat):Int)then(((((d.2.2.2.set d.2.2.1.toNat (d.2.1,v0.2)).set d.2.2.1.toNat (v1.1,(wrapK .i64 (d.2.1+(1:Int))),v1.2.2)).set d.2.2.1.toNat (v2.1,v2.2.1,(wrapK .i64 ((wrapK .i64 (d.2.1+(1:Int)))+(1:Int))),v2.2.2.2)).set d.2.2.1.toNat (v3.1,v3.2.1,v3.2.2.1,(wrapK .i64 ((wrapK .i64 ((wrapK .i64 (d.2.1+(1:Int)))+(1:Int)))+(1:Int))),v3.2.2.2.2))[d.2.2.1.toNat]?).bind fun v4=>
 (if 0≤d.2.2.1 then(if d.2.2.1<(((((((d.2.2.2.set d.2.2.1.toNat (d.2.1,v0.2)).set d.2.2.1.toNat (v1.1,(wrapK .i64 (d.2.1+(1:Int))),v1.2.2)).set d.2.2.1.toNat (v2.1,v2.2.1,(wrapK .i64 ((wrapK .i64 (d.2.1+(1:Int)))+(1:Int))),v2.2.2.2)).set d.2.2.1.toNat (v3.1,v3.2.1,v3.2.2.1,(wrapK .i64 ((wrapK .i64 ((wrapK .i64 (d.2.1+(1:Int)))+(1:Int)))+(1:Int))),v3.2.2.2.2)).set d.2.2.1.toNat (v4.1,v4.2.1,v4.2.2.1,v4.2.2.2.1,(wrapK .i64 ((wrapK .i64 ((wrapK .i64 ((wrapK .i64 (d.2.1+(1:Int)))+(1:Int)))+(1:Int)))+(1:Int))),v4.2.2.2.2.2)).length:Nat):Int)then((((((d.2.2.2.set d.2.2.1.toNat (d.2.1,v0.2)).set d.2.2.1.toNat (v1.1,(wrapK .i64 (d.2.1+(1:Int))),v1.2.2)).set d.2.2.1.toNat (v2.1,v2.2.1,(wrapK .i64 ((wrapK .i64 (d.2.1+(1:Int)))+(1:Int))),v2.2.2.2)).set d.2.2.1.toNat (v3.1,v3.2.1,v3.2.2.1,(wrapK .i64 ((wrapK .i64 ((wrapK .i64 (d.2.1+(1:Int)))+(1:Int)))+(1:Int))),v3.2.2.2.2)).set d.2.2.1.toNat (v4.1,v4.2.1,v4.2.2.1,v4.2.2.2.1,(wrapK .i64 ((wrapK .i64 ((wrapK .i64 ((wrapK .i64 (d.2.1+(1:Int)))+(1:Int)))+(1:Int)))+(1:Int))),v4.2.2.2.2.2))[d.2.2.1.toNat]?).bind fun v5=>
 (if 0≤d.2.2.1 then(if d.2.2.1<((((((((d.2.2.2.set d.2.2.1.toNat (d.2.1,v0.2)).set d.2.2.1.toNat (v1.1,(wrapK .i64 (d.2.1+(1:Int))),v1.2.2)).set d.2.2.1.toNat (v2.1,v2.2.1,(wrapK .i64 ((wrapK .i64 (d.2.1+(1:Int)))+(1:Int))),v2.2.2.2)).set d.2.2.1.toNat (v3.1,v3.2.1,v3.2.2.1,(wrapK .i64 ((wrapK .i64 ((wrapK .i64 (d.2.1+(1:Int)))+(1:Int)))+(1:Int))),v3.2.2.2.2)).set d.2.2.1.toNat (v4.1,v4.2.1,v4.2.2.1,v4.2.2.2.1,(wrapK .i64 ((wrapK .i64 ((wrapK .i64 ((wrapK .i64 (d.2.1+(1:Int)))+(1:Int)))+(1:Int)))+(1:Int))),v4.2.2.2.2.2)).set d.2.2.1.toNat (v5.1,v5.2.1,v5.2.2.1,v5.2.2.2.1,v5.2.2.2.2.1,(wrapK .i64 ((wrapK .i64 ((wrapK .i64 ((wrapK .i64 ((wrapK .i64 (d.2.1+(1:Int)))+(1:Int)))+(1:Int)))+(1:Int)))+(1:Int))),v5.2.2.2.2.2.2)).length:Nat):Int)then(((((((d.2.2.2.set d.2.2.1.toNat (d.2.1,v0.2)).set d.2.2.1.toNat (v1.1,(wrapK .i64 (d.2.1+(1:Int))),v1.2.2)).set d.2.2.1.toNat (v2.1,v2.2.1,(wrapK .i64 ((wrapK .i64 (d.2.1+(1:Int)))+(1:Int))),v2.2.2.2)).set d.2.2.1.toNat (v3.1,v3.2.1,v3.2.2.1,(wrapK .i64 ((wrapK .i64 ((wrapK .i64 (d.2.1+(1:Int)))+(1:Int)))+(1:Int))),v3.2.2.2.2)).set d.2.2.1.toNat (v4.1,v4.2.1,v4.2.2.1,v4.2.2.2.1,(wrapK .i64 ((wrapK .i64 ((wrapK .i64 ((wrapK .i64 (d.2.1+(1:Int)))+(1:Int)))+(1:Int)))+(1:Int))),v4.2.2.2.2.2)).set d.2.2.1.toNat (v5.1,v5.2.1,v5.2.2.1,v5.2.2.2.1,v5.2.2.2.2.1,(wrapK .i64 ((wrapK .i64 ((wrapK .i64 ((wrapK .i64 ((wrapK .i64 (d.2.1+(1:Int)))+(1:Int)))+(1:Int)))+(1:Int)))+(1:Int))),v5.2.2.2.2.2.2))[d.2.2.1.toNat]?).bind fun v6=>
 (if 0≤d.2.2.1 then(if d.2.2.1<(((((((((d.2.2.2.set d.2.2.1.toNat (d.2.1,v0.2)).set d.2.2.1.toNat (v1.1,(wrapK .i64 (d.2.1+(1:Int))),v1.2.2)).set d.2.2.1.toNat (v2.1,v2.2.1,(wrapK .i64 ((wrapK .i64 (d.2.1+(1:Int)))+(1:Int))),v2.2.2.2)).set d.2.2.1.toNat (v3.1,v3.2.1,v3.2.2.1,(wrapK .i64 ((wrapK .i64 ((wrapK .i64 (d.2.1+(1:Int)))+(1:Int)))+(1:Int))),v3.2.2.2.2)).set d.2.2.1.toNat (v4.1,v4.2.1,v4.2.2.1,v4.2.2.2.1,(wrapK .i64 ((wrapK .i64 ((wrapK .i64 ((wrapK .i64 (d.2.1+(1:Int)))+(1:Int)))+(1:Int)))+(1:Int))),v4.2.2.2.2.2)).set d.2.2.1.toNat (v5.1,v5.2.1,v5.2.2.1,v5.2.2.2.1,v5.2.2.2.2.1,(wrapK .i64 ((wrapK .i64 ((wrapK .i64 ((wrapK .i64 ((wrapK .i64 (d.2.1+(1:Int)))+(1:Int)))+(1:Int)))+(1:Int)))+(1:Int))),v5.2.2.2.2.2.2)).set d.2.2.1.toNat (v6.1,v6.2.1,v6.2.2.1,v6.2.2.2.1,v6.2.2.2.2.1,v6.2.2.2.2.2.1,(wrapK .i64 ((wrapK .i64 ((wrapK .i64 ((wrapK .i64 ((wrapK .i64 ((wrapK .i64 (d.2.1+(1:Int)))+(1:Int)))+(1:Int)))+(1:Int)))+(1:Int)))+(1:Int))),v6.2.2.2.2.2.2.2)).length:Nat):Int)then((((((((d.2.2.2.set d.2.2.1.toNat (d.2.1,v0.2)).set d.2.2.1.toNat (v1.1,(wrapK .i64 (d.2.1+(1:Int))),v1.2.2)).set d.2.2.1.toNat (v2.1,v2.2.1,(wrapK .i64 ((wrapK .i64 (d.2.1+(1:Int)))+(1:Int))),v2.2.2.2)).set d.2.2.1.toNat (v3.1,v3.2.1,v3.2.2.1,(wrapK .i64 ((wrapK .i64 ((wrapK .i64 (d.2.1+(1:Int)))+(1:Int)))+(1:Int))),v3.2.2.2.2)).set d.2.2.1.toNat (v4.1,v4.2.1,v4.2.2.1,v4.2.2.2.1,(wrapK .i64 ((wrapK .i64 ((wrapK .i64 ((wrapK .i64 (d.2.1+(1:Int)))+(1:Int)))+(1:Int)))+(1:Int))),v4.2.2.2.2.2)).set d.2.2.1.toNat (v5.1,v5.2.1,v5.2.2.1,v5.2.2.2.1,v5.2.2.2.2.1,(wrapK .i64 ((wrapK .i64 ((wrapK .i64 ((wrapK .i64 ((wrapK .i64 (d.2.1+(1:Int)))+(1:Int)))+(1:Int)))+(1:Int)))+(1:Int))),v5.2.2.2.2.2.2)).set d.2.2.1.toNat (v6.1,v6.2.1,v6.2.2.1,v6.2.2.2.1,v6.2.2.2.2.1,v6.2.2.2.2.2.1,(wrapK .i64 ((wrapK .i64 ((wrapK .i64 ((wrapK .i64 ((wrapK .i64 ((wrapK .i64 (d.2.1+(1:Int)))+(1:Int)))+(1:Int)))+(1:Int)))+(1:Int)))+(1:Int))),v6.2.2.2.2.2.2.2))[d.2.2.1.toNat]?).bind fun v7=>
 ((((((((d.2.2.2.set d.2.2.1.toNat (d.2.1,v0.2)).set d.2.2.1.toNat (v1.1,(wrapK .i64 (d.2.1+(1:Int))),v1.2.2)).set d.2.2.1.toNat (v2.1,v2.2.1,(wrapK .i64 ((wrapK .i64 (d.2.1+(1:Int)))+(1:Int))),v2.2.2.2)).set d.2.2.1.toNat (v3.1,v3.2.1,v3.2.2.1,(wrapK .i64 ((wrapK .i64 ((wrapK .i64 (d.2.1+(1:Int)))+(1:Int)))+(1:Int))),v3.2.2.2.2)).set d.2.2.1.toNat (v4.1,v4.2.1,v4.2.2.1,v4.2.2.2.1,(wrapK .i64 ((wrapK .i64 ((wrapK .i64 ((wrapK .i64 (d.2.1+(1:Int)))+(1:Int)))+(1:Int)))+(1:Int))),v4.2.2.2.2.2)).set d.2.2.1.toNat (v5.1,v5.2.1,v5.2.2.1,v5.2.2.2.1,v5.2.2.2.2.1,(wrapK .i64 ((wrapK .i64 ((wrapK .i64 ((wrapK .i64 ((wrapK .i64 (d.2.1+(1:Int)))+(1:Int)))+(1:Int)))+(1:Int)))+(1:Int))),v5.2.2.2.2.2.2)).set d.2.2.1.toNat (v6.1,v6.2.1,v6.2.2.1,v6.2.2.2.1,v6.2.2.2.2.1,v6.2.2.2.2.2.1,(wrapK .i64 ((wrapK .i64 ((wrapK .i64 ((wrapK .i64 ((wrapK .i64 ((wrapK .i64 (d.2.1+(1:Int)))+(1:Int)))+(1:Int)))+(1:Int)))+(1:Int)))+(1:Int))),v6.2.2.2.2.2.2.2))[d.2.2.1.toNat]?).bind fun v8=>
 (e_laws_markIntS k (v8.2.2.2.2.2.2.2.1,(wrapK .i64 ((wrapK .i64 ((wrapK .i64 ((wrapK .i64 ((wrapK .i64 ((wrapK .i64 ((wrapK .i64 (d.2.1+(1:Int)))+(1:Int)))+(1:Int)))+(1:Int)))+(1:Int)))+(1:Int)))+(1:Int))))).bind fun v9=>
 ((((((((d.2.2.2.set d.2.2.1.toNat (d.2.1,v0.2)).set d.2.2.1.toNat (v1.1,(wrapK .i64 (d.2.1+(1:Int))),v1.2.2)).set d.2.2.1.toNat (v2.1,v2.2.1,(wrapK .i64 ((wrapK .i64 (d.2.1+(1:Int)))+(1:Int))),v2.2.2.2)).set d.2.2.1.toNat (v3.1,v3.2.1,v3.2.2.1,(wrapK .i64 ((wrapK .i64 ((wrapK .i64 (d.2.1+(1:Int)))+(1:Int)))+(1:Int))),v3.2.2.2.2)).set d.2.2.1.toNat (v4.1,v4.2.1,v4.2.2.1,v4.2.2.2.1,(wrapK .i64 ((wrapK .i64 ((wrapK .i64 ((wrapK .i64 (d.2.1+(1:Int)))+(1:Int)))+(1:Int)))+(1:Int))),v4.2.2.2.2.2)).set d.2.2.1.toNat (v5.1,v5.2.1,v5.2.2.1,v5.2.2.2.1,v5.2.2.2.2.1,(wrapK .i64 ((wrapK .i64 ((wrapK .i64 ((wrapK .i64 ((wrapK .i64 (d.2.1+(1:Int)))+(1:Int)))+(1:Int)))+(1:Int)))+(1:Int))),v5.2.2.2.2.2.2)).set d.2.2.1.toNat (v6.1,v6.2.1,v6.2.2.1,v6.2.2.2.1,v6.2.2.2.2.1,v6.2.2.2.2.2.1,(wrapK .i64 ((wrapK .i64 ((wrapK .i64 ((wrapK .i64 ((wrapK .i64 ((wrapK .i64 (d.2.1+(1:Int)))+(1:Int)))+(1:Int)))+(1:Int)))+(1:Int)))+(1:Int))),v6.2.2.2.2.2.2.2))[d.2.2.1.toNat]?).bind fun v10=>
 (if 0≤d.2.2.1 then(if d.2.2.1<((((((((((d.2.2.2.set d.2.2.1.toNat (d.2.1,v0.2)).set d.2.2.1.toNat (v1.1,(wrapK .i64 (d.2.1+(1:Int))),v1.2.2)).set d.2.2.1.toNat (v2.1,v2.2.1,(wrapK .i64 ((wrapK .i64 (d.2.1+(1:Int)))+(1:Int))),v2.2.2.2)).set d.2.2.1.toNat (v3.1,v3.2.1,v3.2.2.1,(wrapK .i64 ((wrapK .i64 ((wrapK .i64 (d.2.1+(1:Int)))+(1:Int)))+(1:Int))),v3.2.2.2.2)).set d.2.2.1.toNat (v4.1,v4.2.1,v4.2.2.1,v4.2.2.2.1,(wrapK .i64 ((wrapK .i64 ((wrapK .i64 ((wrapK .i64 (d.2.1+(1:Int)))+(1:Int)))+(1:Int)))+(1:Int))),v4.2.2.2.2.2)).set d.2.2.1.toNat (v5.1,v5.2.1,v5.2.2.1,v5.2.2.2.1,v5.2.2.2.2.1,(wrapK .i64 ((wrapK .i64 ((wrapK .i64 ((wrapK .i64 ((wrapK .i64 (d.2.1+(1:Int)))+(1:Int)))+(1:Int)))+(1:Int)))+(1:Int))),v5.2.2.2.2.2.2)).set d.2.2.1.toNat (v6.1,v6.2.1,v6.2.2.1,v6.2.2.2.1,v6.2.2.2.2.1,v6.2.2.2.2.2.1,(wrapK .i64 ((wrapK .i64 ((wrapK .i64 ((wrapK .i64 ((wrapK .i64 ((wrapK .i64 (d.2.1+(1:Int)))+(1:Int)))+(1:Int)))+(1:Int)))+(1:Int)))+(1:Int))),v6.2.2.2.2.2.2.2)).set d.2.2.1.toNat (v10.1,v10.2.1,v10.2.2.1,v10.2.2.2.1,v10.2.2.2.2.1,v10.2.2.2.2.2.1,v10.2.2.2.2.2.2.1,v9.2,v10.2.2.2.2.2.2.2.2)).length:Nat):Int)then(((((((((d.2.2.2.set d.2.2.1.toNat (d.2.1,v0.2)).set d.2.2.1.toNat (v1.1,(wrapK .i64 (d.2.1+(1:Int))),v1.2.2)).set d.2.2.1.toNat (v2.1,v2.2.1,(wrapK .i64 ((wrapK .i64 (d.2.1+(1:Int)))+(1:Int))),v2.2.2.2)).set d.2.2.1.toNat (v3.1,v3.2.1,v3.2.2.1,(wrapK .i64 ((wrapK .i64 ((wrapK .i64 (d.2.1+(1:Int)))+(1:Int)))+(1:Int))),v3.2.2.2.2)).set d.2.2.1.toNat (v4.1,v4.2.1,v4.2.2.1,v4.2.2.2.1,(wrapK .i64 ((wrapK .i64 ((wrapK .i64 ((wrapK .i64 (d.2.1+(1:Int)))+(1:Int)))+(1:Int)))+(1:Int))),v4.2.2.2.2.2)).set d.2.2.1.toNat (v5.1,v5.2.1,v5.2.2.1,v5.2.2.2.1,v5.2.2.2.2.1,(wrapK .i64 ((wrapK .i64 ((wrapK .i64 ((wrapK .i64 ((wrapK .i64 (d.2.1+(1:Int)))+(1:Int)))+(1:Int)))+(1:Int)))+(1:Int))),v5.2.2.2.2.2.2)).set d.2.2.1.toNat (v6.1,v6.2.1,v6.2.2.1,v6.2.2.2.1,v6.2.2.2.2.1,v6.2.2.2.2.2.1,(wrapK .i64 ((wrapK .i64 ((wrapK .i64 ((wrapK .i64 ((wrapK .i64 ((wrapK .i64 (d.2.1+(1:Int)))+(1:Int)))+(1:Int)))+(1:Int)))+(1:Int)))+(1:Int))),v6.2.2.2.2.2.2.2)).set d.2.2.1.toNat (v10.1,v10.2.1,v10.2.2.1,v10.2.2.2.1,v10.2.2.2.2.1,v10.2.2.2.2.2.1,v10.2.2.2.2.2.2.1,v9.2,v10.2.2.2.2.2.2.2.2))[d.2.2.1.toNat]?).bind fun v11=>
 (((((((((d.2.2.2.set d.2.2.1.toNat (d.2.1,v0.2)).set d.2.2.1.toNat (v1.1,(wrapK .i64 (d.2.1+(1:Int))),v1.2.2)).set d.2.2.1.toNat (v2.1,v2.2.1,(wrapK .i64 ((wrapK .i64 (d.2.1+(1:Int)))+(1:Int))),v2.2.2.2)).set d.2.2.1.toNat (v3.1,v3.2.1,v3.2.2.1,(wrapK .i64 ((wrapK .i64 ((wrapK .i64 (d.2.1+(1:Int)))+(1:Int)))+(1:Int))),v3.2.2.2.2)).set d.2.2.1.toNat (v4.1,v4.2.1,v4.2.2.1,v4.2.2.2.1,(wrapK .i64 ((wrapK .i64 ((wrapK .i64 ((wrapK .i64 (d.2.1+(1:Int)))+(1:Int)))+(1:Int)))+(1:Int))),v4.2.2.2.2.2)).set d.2.2.1.toNat (v5.1,v5.2.1,v5.2.2.1,v5.2.2.2.1,v5.2.2.2.2.1,(wrapK .i64 ((wrapK .i64 ((wrapK .i64 ((wrapK .i64 ((wrapK .i64 (d.2.1+(1:Int)))+(1:Int)))+(1:Int)))+(1:Int)))+(1:Int))),v5.2.2.2.2.2.2)).set d.2.2.1.toNat (v6.1,v6.2.1,v6.2.2.1,v6.2.2.2.1,v6.2.2.2.2.1,v6.2.2.2.2.2.1,(wrapK .i64 ((wrapK .i64 ((wrapK .i64 ((wrapK .i64 ((wrapK .i64 ((wrapK .i64 (d.2.1+(1:Int)))+(1:Int)))+(1:Int)))+(1:Int)))+(1:Int)))+(1:Int))),v6.2.2.2.2.2.2.2)).set d.2.2.1.toNat (v10.1,v10.2.1,v10.2.2.1,v10.2.2.2.1,v10.2.2.2.2.1,v10.2.2.2.2.2.1,v10.2.2.2.2.2.2.1,v9.2,v10.2.2.2.2.2.2.2.2))[d.2.2.1.toNat]?).bind fun v12=>
 (e_laws_markAclEntryS k (v12.2.2.2.2.2.2.2.2.1,v9.1)).bind fun v13=>
 (((((((((d.2.2.2.set d.2.2.1.toNat (d.2.1,v0.2)).set d.2.2.1.toNat (v1.1,(wrapK .i64 (d.2.1+(1:Int))),v1.2.2)).set d.2.2.1.toNat (v2.1,v2.2.1,(wrapK .i64 ((wrapK .i64 (d.2.1+(1:Int)))+(1:Int))),v2.2.2.2)).set d.2.2.1.toNat (v3.1,v3.2.1,v3.2.2.1,(wrapK .i64 ((wrapK .i64 ((wrapK .i64 (d.2.1+(1:Int)))+(1:Int)))+(1:Int))),v3.2.2.2.2)).set d.2.2.1.toNat (v4.1,v4.2.1,v4.2.2.1,v4.2.2.2.1,(wrapK .i64 ((wrapK .i64 ((wrapK .i64 ((wrapK .i64 (d.2.1+(1:Int)))+(1:Int)))+(1:Int)))+(1:Int))),v4.2.2.2.2.2)).set d.2.2.1.toNat (v5.1,v5.2.1,v5.2.2.1,v5.2.2.2.1,v5.2.2.2.2.1,(wrapK .i64 ((wrapK .i64 ((wrapK .i64 ((wrapK .i64 ((wrapK .i64 (d.2.1+(1:Int)))+(1:Int)))+(1:Int)))+(1:Int)))+(1:Int))),v5.2.2.2.2.2.2)).set d.2.2.1.toNat (v6.1,v6.2.1,v6.2.2.1,v6.2.2.2.1,v6.2.2.2.2.1,v6.2.2.2.2.2.1,(wrapK .i64 ((wrapK .i64 ((wrapK .i64 ((wrapK .i64 ((wrapK .i64 ((wrapK .i64 (d.2.1+(1:Int)))+(1:Int)))+(1:Int)))+(1:Int)))+(1:Int)))+(1:Int))),v6.2.2.2.2.2.2.2)).set d.2.2.1.toNat (v10.1,v10.2.1,v10.2.2.1,v10.2.2.2.1,v10.2.2.2.2.1,v10.2.2.2.2.2.1,v10.2.2.2.2.2.2.1,v9.2,v10.2.2.2.2.2.2.2.2))[d.2.2.1.toNat]?).bind fun v14=>
 (if 0≤d.2.2.1 then(if d.2.2.1<(((((((((((d.2.2.2.set d.2.2.1.toNat (d.2.1,v0.2)).set d.2.2.1.toNat (v1.1,(wrapK .i64 (d.2.1+(1:Int))),v1.2.2)).set d.2.2.1.toNat (v2.1,v2.2.1,(wrapK .i64 ((wrapK .i64 (d.2.1+(1:Int)))+(1:Int))),v2.2.2.2)).set d.2.2.1.toNat (v3.1,v3.2.1,v3.2.2.1,(wrapK .i64 ((wrapK .i64 ((wrapK .i64 (d.2.1+(1:Int)))+(1:Int)))+(1:Int))),v3.2.2.2.2)).set d.2.2.1.toNat (v4.1,v4.2.1,v4.2.2.1,v4.2.2.2.1,(wrapK .i64 ((wrapK .i64 ((wrapK .i64 ((wrapK .i64 (d.2.1+(1:Int)))+(1:Int)))+(1:Int)))+(1:Int))),v4.2.2.2.2.2)).set d.2.2.1.toNat (v5.1,v5.2.1,v5.2.2.1,v5.2.2.2.1,v5.2.2.2.2.1,(wrapK .i64 ((wrapK .i64 ((wrapK .i64 ((wrapK .i64 ((wrapK .i64 (d.2.1+(1:Int)))+(1:Int)))+(1:Int)))+(1:Int)))+(1:Int))),v5.2.2.2.2.2.2)).set d.2.2.1.toNat (v6.1,v6.2.1,v6.2.2.1,v6.2.2.2.1,v6.2.2.2.2.1,v6.2.2.2.2.2.1,(wrapK .i64 ((wrapK .i64 ((wrapK .i64 ((wrapK .i64 ((wrapK .i64 ((wrapK .i64 (d.2.1+(1:Int)))+(1:Int)))+(1:Int)))+(1:Int)))+(1:Int)))+(1:Int))),v6.2.2.2.2.2.2.2)).set d.2.2.1.toNat (v10.1,v10.2.1,v10.2.2.1,v10.2.2.2.1,v10.2.2.2.2.1,v10.2.2.2.2.2.1,v10.2.2.2.2.2.2.1,v9.2,v10.2.2.2.2.2.2.2.2)).set d.2.2.1.toNat (v14.1,v14.2.1,v14.2.2.1,v14.2.2.2.1,v14.2.2.2.2.1,v14.2.2.2.2.2.1,v14.2.2.2.2.2.2.1,v14.2.2.2.2.2.2.2.1,v13.2,v14.2.2.2.2.2.2.2.2.2)).length:Nat):Int)then((((((((((d.2.2.2.set d.2.2.1.toNat (d.2.1,v0.2)).set d.2.2.1.toNat (v1.1,(wrapK .i64 (d.2.1+(1:Int))),v1.2.2)).set d.2.2.1.toNat (v2.1,v2.2.1,(wrapK .i64 ((wrapK .i64 (d.2.1+(1:Int)))+(1:Int))),v2.2.2.2)).set d.2.2.1.toNat (v3.1,v3.2.1,v3.2.2.1,(wrapK .i64 ((wrapK .i64 ((wrapK .i64 (d.2.1+(1:Int)))+(1:Int)))+(1:Int))),v3.2.2.2.2)).set d.2.2.1.toNat (v4.1,v4.2.1,v4.2.2.1,v4.2.2.2.1,(wrapK .i64 ((wrapK .i64 ((wrapK .i64 ((wrapK .i64 (d.2.1+(1:Int)))+(1:Int)))+(1:Int)))+(1:Int))),v4.2.2.2.2.2)).set d.2.2.1.toNat (v5.1,v5.2.1,v5.2.2.1,v5.2.2.2.1,v5.2.2.2.2.1,(wrapK .i64 ((wrapK .i64 ((wrapK .i64 ((wrapK .i64 ((wrapK .i64 (d.2.1+(1:Int)))+(1:Int)))+(1:Int)))+(1:Int)))+(1:Int))),v5.2.2.2.2.2.2)).set d.2.2.1.toNat (v6.1,v6.2.1,v6.2.2.1,v6.2.2.2.1,v6.2.2.2.2.1,v6.2.2.2.2.2.1,(wrapK .i64 ((wrapK .i64 ((wrapK .i64 ((wrapK .i64 ((wrapK .i64 ((wrapK .i64 (d.2.1+(1:Int)))+(1:Int)))+(1:Int)))+(1:Int)))+(1:Int)))+(1:Int))),v6.2.2.2.2.2.2.2)).set d.2.2.1.toNat (v10.1,v10.2.1,v10.2.2.1,v10.2.2.2.1,v10.2.2.2.2.1,v10.2.2.2.2.2.1,v10.2.2.2.2.2.2.1,v9.2,v10.2.2.2.2.2.2.2.2)).set d.2.2.1.toNat (v14.1,v14.2.1,v14.2.2.1,v14.2.2.2.1,v14.2.2.2.2.1,v14.2.2.2.2.2.1,v14.2.2.2.2.2.2.1,v14.2.2.2.2.2.2.2.1,v13.2,v14.2.2.2.2.2.2.2.2.2))[d.2.2.1.toNat]?).bind fun v15=>
 ((((((((((d.2.2.2.set d.2.2.1.toNat (d.2.1,v0.2)).set d.2.2.1.toNat (v1.1,(wrapK .i64 (d.2.1+(1:Int))),v1.2.2)).set d.2.2.1.toNat (v2.1,v2.2.1,(wrapK .i64 ((wrapK .i64 (d.2.1+(1:Int)))+(1:Int))),v2.2.2.2)).set d.2.2.1.toNat (v3.1,v3.2.1,v3.2.2.1,(wrapK .i64 ((wrapK .i64 ((wrapK .i64 (d.2.1+(1:Int)))+(1:Int)))+(1:Int))),v3.2.2.2.2)).set d.2.2.1.toNat (v4.1,v4.2.1,v4.2.2.1,v4.2.2.2.1,(wrapK .i64 ((wrapK .i64 ((wrapK .i64 ((wrapK .i64 (d.2.1+(1:Int)))+(1:Int)))+(1:Int)))+(1:Int))),v4.2.2.2.2.2)).set d.2.2.1.toNat (v5.1,v5.2.1,v5.2.2.1,v5.2.2.2.1,v5.2.2.2.2.1,(wrapK .i64 ((wrapK .i64 ((wrapK .i64 ((wrapK .i64 ((wrapK .i64 (d.2.1+(1:Int)))+(1:Int)))+(1:Int)))+(1:Int)))+(1:Int))),v5.2.2.2.2.2.2)).set d.2.2.1.toNat (v6.1,v6.2.1,v6.2.2.1,v6.2.2.2.1,v6.2.2.2.2.1,v6.2.2.2.2.2.1,(wrapK .i64 ((wrapK .i64 ((wrapK .i64 ((wrapK .i64 ((wrapK .i64 ((wrapK .i64 (d.2.1+(1:Int)))+(1:Int)))+(1:Int)))+(1:Int)))+(1:Int)))+(1:Int))),v6.2.2.2.2.2.2.2)).set d.2.2.1.toNat (v10.1,v10.2.1,v10.2.2.1,v10.2.2.2.1,v10.2.2.2.2.1,v10.2.2.2.2.2.1,v10.2.2.2.2.2.2.1,v9.2,v10.2.2.2.2.2.2.2.2)).set d.2.2.1.toNat (v14.1,v14.2.1,v14.2.2.1,v14.2.2.2.1,v14.2.2.2.2.1,v14.2.2.2.2.2.1,v14.2.2.2.2.2.2.1,v14.2.2.2.2.2.2.2.1,v13.2,v14.2.2.2.2.2.2.2.2.2))[d.2.2.1.toNat]?).bind fun v16=>
 (e_laws_markAclEntryS k (v16.2.2.2.2.2.2.2.2.2,v13.1)).bind fun v17=>
 ((((((((((d.2.2.2.set d.2.2.1.toNat (d.2.1,v0.2)).set d.2.2.1.toNat (v1.1,(wrapK .i64 (d.2.1+(1:Int))),v1.2.2)).set d.2.2.1.toNat (v2.1,v2.2.1,(wrapK .i64 ((wrapK .i64 (d.2.1+(1:Int)))+(1:Int))),v2.2.2.2)).set d.2.2.1.toNat (v3.1,v3.2.1,v3.2.2.1,(wrapK .i64 ((wrapK .i64 ((wrapK .i64 (d.2.1+(1:Int)))+(1:Int)))+(1:Int))),v3.2.2.2.2)).set d.2.2.1.toNat (v4.1,v4.2.1,v4.2.2.1,v4.2.2.2.1,(wrapK .i64 ((wrapK .i64 ((wrapK .i64 ((wrapK .i64 (d.2.1+(1:Int)))+(1:Int)))+(1:Int)))+(1:Int))),v4.2.2.2.2.2)).set d.2.2.1.toNat (v5.1,v5.2.1,v5.2.2.1,v5.2.2.2.1,v5.2.2.2.2.1,(wrapK .i64 ((wrapK .i64 ((wrapK .i64 ((wrapK .i64 ((wrapK .i64 (d.2.1+(1:Int)))+(1:Int)))+(1:Int)))+(1:Int)))+(1:Int))),v5.2.2.2.2.2.2)).set d.2.2.1.toNat (v6.1,v6.2.1,v6.2.2.1,v6.2.2.2.1,v6.2.2.2.2.1,v6.2.2.2.2.2.1,(wrapK .i64 ((wrapK .i64 ((wrapK .i64 ((wrapK .i64 ((wrapK .i64 ((wrapK .i64 (d.2.1+(1:Int)))+(1:Int)))+(1:Int)))+(1:Int)))+(1:Int)))+(1:Int))),v6.2.2.2.2.2.2.2)).set d.2.2.1.toNat (v10.1,v10.2.1,v10.2.2.1,v10.2.2.2.1,v10.2.2.2.2.1,v10.2.2.2.2.2.1,v10.2.2.2.2.2.2.1,v9.2,v10.2.2.2.2.2.2.2.2)).set d.2.2.1.toNat (v14.1,v14.2.1,v14.2.2.1,v14.2.2.2.1,v14.2.2.2.2.1,v14.2.2.2.2.2.1,v14.2.2.2.2.2.2.1,v14.2.2.2.2.2.2.2.1,v13.2,v14.2.2.2.2.2.2.2.2.2))[d.2.2.1.toNat]?).bind fun v18=>
 self ((),v17.1,(wrapK .i64 (d.2.2.1+(1:Int))),((((((((((d.2.2.2.set d.2.2.1.toNat (d.2.1,v0.2)).set d.2.2.1.toNat (v1.1,(wrapK .i64 (d.2.1+(1:Int))),v1.2.2)).set d.2.2.1.toNat (v2.1,v2.2.1,(wrapK .i64 ((wrapK .i64 (d.2.1+(1:Int)))+(1:Int))),v2.2.2.2)).set d.2.2.1.toNat (v3.1,v3.2.1,v3.2.2.1,(wrapK .i64 ((wrapK .i64 ((wrapK .i64 (d.2.1+(1:Int)))+(1:Int)))+(1:Int))),v3.2.2.2.2)).set d.2.2.1.toNat (v4.1,v4.2.1,v4.2.2.1,v4.2.2.2.1,(wrapK .i64 ((wrapK .i64 ((wrapK .i64 ((wrapK .i64 (d.2.1+(1:Int)))+(1:Int)))+(1:Int)))+(1:Int))),v4.2.2.2.2.2)).set d.2.2.1.toNat (v5.1,v5.2.1,v5.2.2.1,v5.2.2.2.1,v5.2.2.2.2.1,(wrapK .i64 ((wrapK .i64 ((wrapK .i64 ((wrapK .i64 ((wrapK .i64 (d.2.1+(1:Int)))+(1:Int)))+(1:Int)))+(1:Int)))+(1:Int))),v5.2.2.2.2.2.2)).set d.2.2.1.toNat (v6.1,v6.2.1,v6.2.2.1,v6.2.2.2.1,v6.2.2.2.2.1,v6.2.2.2.2.2.1,(wrapK .i64 ((wrapK .i64 ((wrapK .i64 ((wrapK .i64 ((wrapK .i64 ((wrapK .i64 (d.2.1+(1:Int)))+(1:Int)))+(1:Int)))+(1:Int)))+(1:Int)))+(1:Int))),v6.2.2.2.2.2.2.2)).set d.2.2.1.toNat (v10.1,v10.2.1,v10.2.2.1,v10.2.2.2.1,v10.2.2.2.2.1,v10.2.2.2.2.2.1,v10.2.2.2.2.2.2.1,v9.2,v10.2.2.2.2.2.2.2.2)).set d.2.2.1.toNat (v14.1,v14.2.1,v14.2.2.1,v14.2.2.2.1,v14.2.2.2.2.1,v14.2.2.2.2.2.1,v14.2.2.2.2.2.2.1,v14.2.2.2.2.2.2.2.1,v13.2,v14.2.2.2.2.2.2.2.2.2)).set d.2.2.1.toNat (v18.1,v18.2.1,v18.2.2.1,v18.2.2.2.1,v18.2.2.2.2.1,v18.2.2.2.2.2.1,v18.2.2.2.2.2.2.1,v18.2.2.2.2.2.2.2.1,v18.2.2.2.2.2.2.2.2.1,v17.2)))else none)else none)else none)else none)else none)else none)else none)else none)else none)else none)else none)else none)else none)else none)else none)else none)else none)else none)else none)else none)else some (d.2.1,d.2.2.2))
theorem q_laws_markInodeS_l1_ok: @laws_markInodeS_l1= @q_laws_markInodeS_l1:=by
 funext k self d
 simp only[laws_markInodeS_l1,q_laws_markInodeS_l1,e_laws_markAclEntryS_ok,e_laws_markIntS_ok]
def q_laws_markInodeS(k:Nat)(x0:(List DInode))(x1:Int):Option (Int×(List DInode)):=
 iter k (q_laws_markInodeS_l1 k) ((),x1,(0:Int),x0)
theorem q_laws_markInodeS_ok: @laws_markInodeS= @q_laws_markInodeS:=by
 funext k x0 x1
 simp only[laws_markInodeS,q_laws_markInodeS,q_laws_markInodeS_l1_ok]
def e_laws_markInodeS:Nat→((List DInode)×Int)→Option (Int×(List DInode))
 |0,_=>none
 |k+1,(x0,x1)=>q_laws_markInodeS k x0 x1
theorem e_laws_markInodeS_ok:c_laws_markInodeS=e_laws_markInodeS:=by
 funext k x
 cases k with
 |zero=>rfl
 |succ k=>exact(laws_markInodeS_run k x.1 x.2).trans (congrFun (congrFun (congrFun q_laws_markInodeS_ok k) (x.1)) (x.2))
def q_laws_markStringS_l1(k:Nat)(self:_→Option (Int×(List ByteArray)))(d:(Unit×(Int×(Int×(List ByteArray))))):=
 (bif (decide (d.2.2.1<(d.2.2.2.length:Int)))then(e_laws_markText k d.2.1).bind fun v0=>
 (if 0≤d.2.2.1 then(if d.2.2.1<(d.2.2.2.length:Int)then(d.2.2.2[d.2.2.1.toNat]?).bind fun v1=>
 self ((),(wrapK .i64 (d.2.1+(1:Int))),(wrapK .i64 (d.2.2.1+(1:Int))),(d.2.2.2.set d.2.2.1.toNat v0))else none)else none)else some (d.2.1,d.2.2.2))
theorem q_laws_markStringS_l1_ok: @laws_markStringS_l1= @q_laws_markStringS_l1:=by
 funext k self d
 simp only[laws_markStringS_l1,q_laws_markStringS_l1,e_laws_markText_ok]
def q_laws_markStringS(k:Nat)(x0:(List ByteArray))(x1:Int):Option (Int×(List ByteArray)):=
 iter k (q_laws_markStringS_l1 k) ((),x1,(0:Int),x0)
theorem q_laws_markStringS_ok: @laws_markStringS= @q_laws_markStringS:=by
 funext k x0 x1
 simp only[laws_markStringS,q_laws_markStringS,q_laws_markStringS_l1_ok]
def e_laws_markStringS:Nat→((List ByteArray)×Int)→Option (Int×(List ByteArray))
 |0,_=>none
 |k+1,(x0,x1)=>q_laws_markStringS k x0 x1
theorem e_laws_markStringS_ok:c_laws_markStringS=e_laws_markStringS:=by
 funext k x
 cases k with
 |zero=>rfl
 |succ k=>exact(laws_markStringS_run k x.1 x.2).trans (congrFun (congrFun (congrFun q_laws_markStringS_ok k) (x.1)) (x.2))
def q_laws_markWriteS_l1(k:Nat)(self:_→Option (Int×(List DWrite)))(d:(Unit×(Int×(Int×(List DWrite))))):=
 (bif (decide (d.2.2.1<(d.2.2.2.length:Int)))then(if 0≤d.2.2.1 then(if d.2.2.1<(d.2.2.2.length:Int)then(d.2.2.2[d.2.2.1.toNat]?).bind fun v0=>
 (e_laws_markText k (wrapK .i64 (d.2.1+(1:Int)))).bind fun v1=>
 (if 0≤d.2.2.1 then(if d.2.2.1<(((d.2.2.2.set d.2.2.1.toNat (d.2.1,v0.2)).length:Nat):Int)then((d.2.2.2.set d.2.2.1.toNat (d.2.1,v0.2))[d.2.2.1.toNat]?).bind fun v2=>
 self ((),(wrapK .i64 ((wrapK .i64 (d.2.1+(1:Int)))+(1:Int))),(wrapK .i64 (d.2.2.1+(1:Int))),((d.2.2.2.set d.2.2.1.toNat (d.2.1,v0.2)).set d.2.2.1.toNat (v2.1,v1)))else none)else none)else none)else none)else some (d.2.1,d.2.2.2))
theorem q_laws_markWriteS_l1_ok: @laws_markWriteS_l1= @q_laws_markWriteS_l1:=by
 funext k self d
 simp only[laws_markWriteS_l1,q_laws_markWriteS_l1,e_laws_markText_ok]
def q_laws_markWriteS(k:Nat)(x0:(List DWrite))(x1:Int):Option (Int×(List DWrite)):=
 iter k (q_laws_markWriteS_l1 k) ((),x1,(0:Int),x0)
theorem q_laws_markWriteS_ok: @laws_markWriteS= @q_laws_markWriteS:=by
 funext k x0 x1
 simp only[laws_markWriteS,q_laws_markWriteS,q_laws_markWriteS_l1_ok]
def e_laws_markWriteS:Nat→((List DWrite)×Int)→Option (Int×(List DWrite))
 |0,_=>none
 |k+1,(x0,x1)=>q_laws_markWriteS k x0 x1
theorem e_laws_markWriteS_ok:c_laws_markWriteS=e_laws_markWriteS:=by
 funext k x
 cases k with
 |zero=>rfl
 |succ k=>exact(laws_markWriteS_run k x.1 x.2).trans (congrFun (congrFun (congrFun q_laws_markWriteS_ok k) (x.1)) (x.2))
def q_laws_markOpenS_l1(k:Nat)(self:_→Option (Int×(List DOpen)))(d:(Unit×(Int×(Int×(List DOpen))))):=
 (bif (decide (d.2.2.1<(d.2.2.2.length:Int)))then(if 0≤d.2.2.1 then(if d.2.2.1<(d.2.2.2.length:Int)then(d.2.2.2[d.2.2.1.toNat]?).bind fun v0=>
 (if 0≤d.2.2.1 then(if d.2.2.1<(((d.2.2.2.set d.2.2.1.toNat (d.2.1,v0.2)).length:Nat):Int)then((d.2.2.2.set d.2.2.1.toNat (d.2.1,v0.2))[d.2.2.1.toNat]?).bind fun v1=>
 (if 0≤d.2.2.1 then(if d.2.2.1<((((d.2.2.2.set d.2.2.1.toNat (d.2.1,v0.2)).set d.2.2.1.toNat (v1.1,(wrapK .i64 (d.2.1+(1:Int))),v1.2.2)).length:Nat):Int)then(((d.2.2.2.set d.2.2.1.toNat (d.2.1,v0.2)).set d.2.2.1.toNat (v1.1,(wrapK .i64 (d.2.1+(1:Int))),v1.2.2))[d.2.2.1.toNat]?).bind fun v2=>
 self ((),(wrapK .i64 ((wrapK .i64 ((wrapK .i64 (d.2.1+(1:Int)))+(1:Int)))+(1:Int))),(wrapK .i64 (d.2.2.1+(1:Int))),(((d.2.2.2.set d.2.2.1.toNat (d.2.1,v0.2)).set d.2.2.1.toNat (v1.1,(wrapK .i64 (d.2.1+(1:Int))),v1.2.2)).set d.2.2.1.toNat (v2.1,v2.2.1,(wrapK .i64 ((wrapK .i64 (d.2.1+(1:Int)))+(1:Int))))))else none)else none)else none)else none)else none)else none)else some (d.2.1,d.2.2.2))
theorem q_laws_markOpenS_l1_ok: @laws_markOpenS_l1= @q_laws_markOpenS_l1:=by
 funext k self d
 rfl
def q_laws_markOpenS(k:Nat)(x0:(List DOpen))(x1:Int):Option (Int×(List DOpen)):=
 iter k (q_laws_markOpenS_l1 k) ((),x1,(0:Int),x0)
theorem q_laws_markOpenS_ok: @laws_markOpenS= @q_laws_markOpenS:=by
 funext k x0 x1
 simp only[laws_markOpenS,q_laws_markOpenS,q_laws_markOpenS_l1_ok]
def e_laws_markOpenS:Nat→((List DOpen)×Int)→Option (Int×(List DOpen))
 |0,_=>none
 |k+1,(x0,x1)=>q_laws_markOpenS k x0 x1
theorem e_laws_markOpenS_ok:c_laws_markOpenS=e_laws_markOpenS:=by
 funext k x
 cases k with
 |zero=>rfl
 |succ k=>exact(laws_markOpenS_run k x.1 x.2).trans (congrFun (congrFun (congrFun q_laws_markOpenS_ok k) (x.1)) (x.2))
def q_laws_markProcS_l1(k:Nat)(self:_→Option (Int×(List DProc)))(d:(Unit×(Int×(Int×(List DProc))))):=
 (bif (decide (d.2.2.1<(d.2.2.2.length:Int)))then(if 0≤d.2.2.1 then(if d.2.2.1<(d.2.2.2.length:Int)then(d.2.2.2[d.2.2.1.toNat]?).bind fun v0=>
 (if 0≤d.2.2.1 then(if d.2.2.1<(((d.2.2.2.set d.2.2.1.toNat ((d.2.1,v0.1.2),v0.2)).length:Nat):Int)then((d.2.2.2.set d.2.2.1.toNat ((d.2.1,v0.1.2),v0.2))[d.2.2.1.toNat]?).bind fun v1=>
 (if 0≤d.2.2.1 then(if d.2.2.1<((((d.2.2.2.set d.2.2.1.toNat ((d.2.1,v0.1.2),v0.2)).set d.2.2.1.toNat ((v1.1.1,(wrapK .i64 (d.2.1+(1:Int))),v1.1.2.2),v1.2)).length:Nat):Int)then(((d.2.2.2.set d.2.2.1.toNat ((d.2.1,v0.1.2),v0.2)).set d.2.2.1.toNat ((v1.1.1,(wrapK .i64 (d.2.1+(1:Int))),v1.1.2.2),v1.2))[d.2.2.1.toNat]?).bind fun v2=>
 (((d.2.2.2.set d.2.2.1.toNat ((d.2.1,v0.1.2),v0.2)).set d.2.2.1.toNat ((v1.1.1,(wrapK .i64 (d.2.1+(1:Int))),v1.1.2.2),v1.2))[d.2.2.1.toNat]?).bind fun v3=>
 (e_laws_markIntS k (v3.1.2.2,(wrapK .i64 ((wrapK .i64 (d.2.1+(1:Int)))+(1:Int))))).bind fun v4=>
 (((d.2.2.2.set d.2.2.1.toNat ((d.2.1,v0.1.2),v0.2)).set d.2.2.1.toNat ((v1.1.1,(wrapK .i64 (d.2.1+(1:Int))),v1.1.2.2),v1.2))[d.2.2.1.toNat]?).bind fun v5=>
 (if 0≤d.2.2.1 then(if d.2.2.1<(((((d.2.2.2.set d.2.2.1.toNat ((d.2.1,v0.1.2),v0.2)).set d.2.2.1.toNat ((v1.1.1,(wrapK .i64 (d.2.1+(1:Int))),v1.1.2.2),v1.2)).set d.2.2.1.toNat ((v5.1.1,v5.1.2.1,v4.2),v5.2)).length:Nat):Int)then((((d.2.2.2.set d.2.2.1.toNat ((d.2.1,v0.1.2),v0.2)).set d.2.2.1.toNat ((v1.1.1,(wrapK .i64 (d.2.1+(1:Int))),v1.1.2.2),v1.2)).set d.2.2.1.toNat ((v5.1.1,v5.1.2.1,v4.2),v5.2))[d.2.2.1.toNat]?).bind fun v6=>
 ((((d.2.2.2.set d.2.2.1.toNat ((d.2.1,v0.1.2),v0.2)).set d.2.2.1.toNat ((v1.1.1,(wrapK .i64 (d.2.1+(1:Int))),v1.1.2.2),v1.2)).set d.2.2.1.toNat ((v5.1.1,v5.1.2.1,v4.2),v5.2))[d.2.2.1.toNat]?).bind fun v7=>
 (e_laws_markOpenS k (v7.2,v4.1)).bind fun v8=>
 ((((d.2.2.2.set d.2.2.1.toNat ((d.2.1,v0.1.2),v0.2)).set d.2.2.1.toNat ((v1.1.1,(wrapK .i64 (d.2.1+(1:Int))),v1.1.2.2),v1.2)).set d.2.2.1.toNat ((v5.1.1,v5.1.2.1,v4.2),v5.2))[d.2.2.1.toNat]?).bind fun v9=>
 self ((),v8.1,(wrapK .i64 (d.2.2.1+(1:Int))),((((d.2.2.2.set d.2.2.1.toNat ((d.2.1,v0.1.2),v0.2)).set d.2.2.1.toNat ((v1.1.1,(wrapK .i64 (d.2.1+(1:Int))),v1.1.2.2),v1.2)).set d.2.2.1.toNat ((v5.1.1,v5.1.2.1,v4.2),v5.2)).set d.2.2.1.toNat (v9.1,v8.2)))else none)else none)else none)else none)else none)else none)else none)else none)else some (d.2.1,d.2.2.2))
theorem q_laws_markProcS_l1_ok: @laws_markProcS_l1= @q_laws_markProcS_l1:=by
 funext k self d
 simp only[laws_markProcS_l1,q_laws_markProcS_l1,e_laws_markIntS_ok,e_laws_markOpenS_ok]
def q_laws_markProcS(k:Nat)(x0:(List DProc))(x1:Int):Option (Int×(List DProc)):=
 iter k (q_laws_markProcS_l1 k) ((),x1,(0:Int),x0)
theorem q_laws_markProcS_ok: @laws_markProcS= @q_laws_markProcS:=by
 funext k x0 x1
 simp only[laws_markProcS,q_laws_markProcS,q_laws_markProcS_l1_ok]
def e_laws_markProcS:Nat→((List DProc)×Int)→Option (Int×(List DProc))
 |0,_=>none
 |k+1,(x0,x1)=>q_laws_markProcS k x0 x1
theorem e_laws_markProcS_ok:c_laws_markProcS=e_laws_markProcS:=by
 funext k x
 cases k with
 |zero=>rfl
 |succ k=>exact(laws_markProcS_run k x.1 x.2).trans (congrFun (congrFun (congrFun q_laws_markProcS_ok k) (x.1)) (x.2))
def q_laws_FnExactNewConsole(k:Nat):Option Bool:=
 (e_spec_NewConsole k ()).bind fun y1=>
 (e_impl_NewConsole k ()).bind fun y2=>
 (e_laws_eqConsole k (y2,y1)).bind fun y3=>
 (bif (!y3)then some false else(e_laws_markStringS k (y2.1.1.1,(1:Int))).bind fun y4=>
 (e_laws_markWriteS k (y2.1.1.2,y4.1)).bind fun y5=>
 (e_laws_markQuotaS k (y2.1.2.2.1.2.1,y5.1)).bind fun y6=>
 (e_laws_markInodeS k (y2.1.2.2.1.2.2.1,y6.1)).bind fun y7=>
 (e_laws_markStringS k (y2.1.2.2.1.2.2.2,y7.1)).bind fun y8=>
 (e_laws_markProcS k (y2.1.2.2.2,y8.1)).bind fun y9=>
 (e_laws_heldConsole k ((((y4.2,y5.2),y2.1.2.1,(y2.1.2.2.1.1,y6.2,y7.2,y8.2),y9.2),y2.2),(1:Int))).bind fun y10=>
 (bif (decide (y10<(0:Int)))then some false else(bif (y10 != y9.1)then some false else(e_impl_NewConsole k ()).bind fun y11=>
 (e_laws_eqConsole k (y11,y1)).bind fun y12=>
 (bif (!y12)then some false else(e_laws_heldConsole k ((((y4.2,y5.2),y2.1.2.1,(y2.1.2.2.1.1,y6.2,y7.2,y8.2),y9.2),y2.2),(1:Int))).bind fun y13=>
 (bif (decide (y13<(0:Int)))then some false else(bif (y13 != y9.1)then some false else some true))))))
theorem q_laws_FnExactNewConsole_ok: @laws_FnExactNewConsole= @q_laws_FnExactNewConsole:=by
 funext k
 simp only[laws_FnExactNewConsole,q_laws_FnExactNewConsole,e_impl_NewConsole_ok,e_laws_eqConsole_ok,e_laws_heldConsole_ok,e_laws_markInodeS_ok,e_laws_markProcS_ok,e_laws_markQuotaS_ok,e_laws_markStringS_ok,e_laws_markWriteS_ok,e_spec_NewConsole_ok]
def e_laws_FnExactNewConsole:Nat→Unit→Option Bool
 |0,_=>none
 |k+1,_=>q_laws_FnExactNewConsole k
theorem e_laws_FnExactNewConsole_ok:c_laws_FnExactNewConsole=e_laws_FnExactNewConsole:=by
 funext k x
 cases k with
 |zero=>rfl
 |succ k=>exact(laws_FnExactNewConsole_run k).trans (congrFun q_laws_FnExactNewConsole_ok k)
end
end Go.Proofs.YtmmgfgfkkpeedaaGreat
