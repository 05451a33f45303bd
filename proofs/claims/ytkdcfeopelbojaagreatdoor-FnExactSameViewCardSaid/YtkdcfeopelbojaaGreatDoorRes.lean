/- The tables, the residual functions and lemmas of this seat: parts of the proof of the law; conditions: those that each names. -/
import Derived.Test.YtkdcfeopelbojaaGreatDoorTab
set_option maxRecDepth 100000
set_option maxHeartbeats 0
set_option linter.unusedVariables false
namespace Go.Proofs.YtkdcfeopelbojaaGreatDoor
open Go.Eng
noncomputable section
def yk(k:Nat)(x0:(List aI))(x1:Int):Option Int:=
 (bif (decide ((aa .i64 (x1-(x0.length:Int)))<(0:Int)))then some (-1:Int)else some (aa .i64 (x1-(x0.length:Int))))
theorem zG(k:Nat)(x0:(List aI))(x1:Int):mZ (k+1) (x0,x1)=yk k x0 x1:=by kernel_rfl
def CV(k:Nat)(x0:(List Int))(x1:Int):Option Int:=
 (bif (decide ((aa .i64 (x1-(x0.length:Int)))<(0:Int)))then some (-1:Int)else some (aa .i64 (x1-(x0.length:Int))))
theorem Dn(k:Nat)(x0:(List Int))(x1:Int):lV (k+1) (x0,x1)=CV k x0 x1:=by kernel_rfl
def qn(k:Nat)(x0:(List aj))(x1:Int):Option Int:=
 (bif (decide ((aa .i64 (x1-(x0.length:Int)))<(0:Int)))then some (-1:Int)else some (aa .i64 (x1-(x0.length:Int))))
theorem vn(k:Nat)(x0:(List aj))(x1:Int):fC (k+1) (x0,x1)=qn k x0 x1:=by kernel_rfl
def AB(k:Nat)(x0:aE)(x1:Int):Option Int:=
 (lV k (x0.2.2.2.2.2.2.2.1,x1)).bind fun y1=>
 (bif (decide (y1<(0:Int)))then some (-1:Int)else(fC k (x0.2.2.2.2.2.2.2.2.1,y1)).bind fun y2=>
 (bif (decide (y2<(0:Int)))then some (-1:Int)else(fC k (x0.2.2.2.2.2.2.2.2.2,y2)).bind fun y3=>
 (bif (decide (y3<(0:Int)))then some (-1:Int)else some y3)))
theorem B8(k:Nat)(x0:aE)(x1:Int):gW (k+1) (x0,x1)=AB k x0 x1:=by kernel_rfl
def qU(k:Nat)(self:_→Option Int)(d:((List aE)×aI)):=
 (bif (decide (d.2.2<(d.1.length:Int)))then(if 0≤d.2.2 then(d.1[d.2.2.toNat]?).bind fun v0=>
 (gW k (v0,d.2.1)).bind fun v1=>
 (bif (decide (v1<(0:Int)))then some (-1:Int)else self (d.1,v1,(aa .i64 (d.2.2+(1:Int)))))else none)else some d.2.1)
def xJ(k:Nat)(x0:(List aE))(x1:Int):Option Int:=
 (bif (decide ((aa .i64 (x1-(x0.length:Int)))<(0:Int)))then some (-1:Int)else iter k (qU k) (x0,(aa .i64 (x1-(x0.length:Int))),(0:Int)))
theorem zy(k:Nat)(x0:(List aE))(x1:Int):mU (k+1) (x0,x1)=xJ k x0 x1:=by kernel_rfl
def oP(k:Nat)(self:_→Option Int)(d:((List ByteArray)×aI)):=
 (bif (decide (d.2.2<(d.1.length:Int)))then(if 0≤d.2.2 then(d.1[d.2.2.toNat]?).bind fun v0=>
 (bif (decide ((aa .i64 (d.2.1-(v0.size:Int)))<(0:Int)))then some (-1:Int)else self (d.1,(aa .i64 (d.2.1-(v0.size:Int))),(aa .i64 (d.2.2+(1:Int)))))else none)else some d.2.1)
def vA(k:Nat)(x0:(List ByteArray))(x1:Int):Option Int:=
 (bif (decide ((aa .i64 (x1-(x0.length:Int)))<(0:Int)))then some (-1:Int)else iter k (oP k) (x0,(aa .i64 (x1-(x0.length:Int))),(0:Int)))
theorem za(k:Nat)(x0:(List ByteArray))(x1:Int):k8 (k+1) (x0,x1)=vA k x0 x1:=by kernel_rfl
def Hj(k:Nat)(x0:bW)(x1:Int):Option Int:=
 (mZ k (x0.2.1,x1)).bind fun y1=>
 (bif (decide (y1<(0:Int)))then some (-1:Int)else(mU k (x0.2.2.1,y1)).bind fun y2=>
 (bif (decide (y2<(0:Int)))then some (-1:Int)else(k8 k (x0.2.2.2,y2)).bind fun y3=>
 (bif (decide (y3<(0:Int)))then some (-1:Int)else some y3)))
theorem Gu(k:Nat)(x0:bW)(x1:Int):oO (k+1) (x0,x1)=Hj k x0 x1:=by kernel_rfl
def CW(k:Nat)(x0:aS)(x1:Int):Option Int:=
 (lV k (x0.2.2,x1)).bind fun y1=>
 (bif (decide (y1<(0:Int)))then some (-1:Int)else some y1)
theorem Dm(k:Nat)(x0:aS)(x1:Int):pS (k+1) (x0,x1)=CW k x0 x1:=by kernel_rfl
def zI(k:Nat)(x0:aI):Option aI:=
 some (x0.1,x0.2)
theorem B2(k:Nat)(x0:aI):kz (k+1) (x0)=zI k x0:=by kernel_rfl
def qt(k:Nat)(self:_→Option (List aI))(d:((List aI)×((List aI)×Int))):=
 (bif (decide (d.2.2<(d.1.length:Int)))then(if 0≤d.2.2 then(d.1[d.2.2.toNat]?).bind fun v0=>
 (kz k v0).bind fun v1=>
 (if 0≤d.2.2 then(if d.2.2<(d.2.1.length:Int)then(d.2.1[d.2.2.toNat]?).bind fun v2=>
 self (d.1,(d.2.1.set d.2.2.toNat v1),(aa .i64 (d.2.2+(1:Int))))else none)else none)else none)else some d.2.1)
def xF(k:Nat)(x0:(List aI)):Option (List aI):=
 (if 0≤(x0.length:Int)then(if(x0.length:Int)≤(x0.length:Int)then(if(x0.length:Int)*16≤(au:Int)then iter k (qt k) (x0,(List.replicate (x0.length:Int).toNat ((0:Int),(0:Int))),(0:Int))else none)else none)else none)
theorem Ac(k:Nat)(x0:(List aI)):mM (k+1) (x0)=xF k x0:=by kernel_rfl
def oE(k:Nat)(self:_→Option (List Int))(d:((List Int)×((List Int)×Int))):=
 (bif (decide (d.2.2<(d.1.length:Int)))then(if 0≤d.2.2 then(d.1[d.2.2.toNat]?).bind fun v0=>
 (if 0≤d.2.2 then(if d.2.2<(d.2.1.length:Int)then(d.2.1[d.2.2.toNat]?).bind fun v1=>
 self (d.1,(d.2.1.set d.2.2.toNat v0),(aa .i64 (d.2.2+(1:Int))))else none)else none)else none)else some d.2.1)
def C3(k:Nat)(x0:(List Int)):Option (List Int):=
 (if 0≤(x0.length:Int)then(if(x0.length:Int)≤(x0.length:Int)then(if(x0.length:Int)*8≤(au:Int)then iter k (oE k) (x0,(List.replicate (x0.length:Int).toNat (0:Int)),(0:Int))else none)else none)else none)
theorem DK(k:Nat)(x0:(List Int)):lR (k+1) (x0)=C3 k x0:=by kernel_rfl
def tn(k:Nat)(x0:aj):Option aj:=
 some (x0.1,x0.2.1,x0.2.2)
theorem wP(k:Nat)(x0:aj):gL (k+1) (x0)=tn k x0:=by kernel_rfl
def nj(k:Nat)(self:_→Option (List aj))(d:((List aj)×((List aj)×Int))):=
 (bif (decide (d.2.2<(d.1.length:Int)))then(if 0≤d.2.2 then(d.1[d.2.2.toNat]?).bind fun v0=>
 (gL k v0).bind fun v1=>
 (if 0≤d.2.2 then(if d.2.2<(d.2.1.length:Int)then(d.2.1[d.2.2.toNat]?).bind fun v2=>
 self (d.1,(d.2.1.set d.2.2.toNat v1),(aa .i64 (d.2.2+(1:Int))))else none)else none)else none)else some d.2.1)
def rB(k:Nat)(x0:(List aj)):Option (List aj):=
 (if 0≤(x0.length:Int)then(if(x0.length:Int)≤(x0.length:Int)then(if(x0.length:Int)*24≤(au:Int)then iter k (nj k) (x0,(List.replicate (x0.length:Int).toNat ((0:Int),(0:Int),(0:Int))),(0:Int))else none)else none)else none)
theorem vI(k:Nat)(x0:(List aj)):fR (k+1) (x0)=rB k x0:=by kernel_rfl
def zM(k:Nat)(x0:aE):Option aE:=
 (lR k x0.2.2.2.2.2.2.2.1).bind fun y1=>
 (fR k x0.2.2.2.2.2.2.2.2.1).bind fun y2=>
 (fR k x0.2.2.2.2.2.2.2.2.2).bind fun y3=>
 some (x0.1,x0.2.1,x0.2.2.1,x0.2.2.2.1,x0.2.2.2.2.1,x0.2.2.2.2.2.1,x0.2.2.2.2.2.2.1,y1,y2,y3)
theorem BO(k:Nat)(x0:aE):kK (k+1) (x0)=zM k x0:=by kernel_rfl
def qR(k:Nat)(self:_→Option (List aE))(d:((List aE)×((List aE)×Int))):=
 (bif (decide (d.2.2<(d.1.length:Int)))then(if 0≤d.2.2 then(d.1[d.2.2.toNat]?).bind fun v0=>
 (kK k v0).bind fun v1=>
 (if 0≤d.2.2 then(if d.2.2<(d.2.1.length:Int)then(d.2.1[d.2.2.toNat]?).bind fun v2=>
 self (d.1,(d.2.1.set d.2.2.toNat v1),(aa .i64 (d.2.2+(1:Int))))else none)else none)else none)else some d.2.1)
def xG(k:Nat)(x0:(List aE)):Option (List aE):=
 (if 0≤(x0.length:Int)then(if(x0.length:Int)≤(x0.length:Int)then(if(x0.length:Int)*128≤(au:Int)then iter k (qR k) (x0,(List.replicate (x0.length:Int).toNat ((0:Int),(0:Int),(0:Int),(0:Int),(0:Int),(0:Int),(0:Int),([]:List Int),([]:List aj),([]:List aj))),(0:Int))else none)else none)else none)
theorem Aw(k:Nat)(x0:(List aE)):mS (k+1) (x0)=xG k x0:=by kernel_rfl
def ki(k:Nat)(self:_→Option (List ByteArray))(d:((List ByteArray)×((List ByteArray)×Int))):=
 (bif (decide (d.2.2<(d.1.length:Int)))then(if 0≤d.2.2 then(d.1[d.2.2.toNat]?).bind fun v0=>
 (if 0≤d.2.2 then(if d.2.2<(d.2.1.length:Int)then(d.2.1[d.2.2.toNat]?).bind fun v1=>
 self (d.1,(d.2.1.set d.2.2.toNat v0),(aa .i64 (d.2.2+(1:Int))))else none)else none)else none)else some d.2.1)
def vO(k:Nat)(x0:(List ByteArray)):Option (List ByteArray):=
 (if 0≤(x0.length:Int)then(if(x0.length:Int)≤(x0.length:Int)then(if(x0.length:Int)*16≤(au:Int)then iter k (ki k) (x0,(List.replicate (x0.length:Int).toNat ByteArray.empty),(0:Int))else none)else none)else none)
theorem yw(k:Nat)(x0:(List ByteArray)):lh (k+1) (x0)=vO k x0:=by kernel_rfl
def Hm(k:Nat)(x0:bW):Option bW:=
 (mM k x0.2.1).bind fun y1=>
 (mS k x0.2.2.1).bind fun y2=>
 (lh k x0.2.2.2).bind fun y3=>
 some (x0.1,y1,y2,y3)
theorem GM(k:Nat)(x0:bW):fA (k+1) (x0)=Hm k x0:=by kernel_rfl
def C9(k:Nat)(x0:aS):Option aS:=
 (lR k x0.2.2).bind fun y1=>
 some (x0.1,x0.2.1,y1)
theorem DI(k:Nat)(x0:aS):iX (k+1) (x0)=C9 k x0:=by kernel_rfl
def o5(k:Nat)(self:_→Option Bool)(d:((List ByteArray)×((List ByteArray)×Int))):=
 (bif (decide (d.2.2<(d.1.length:Int)))then(if 0≤d.2.2 then(d.1[d.2.2.toNat]?).bind fun v0=>
 (if 0≤d.2.2 then(d.2.1[d.2.2.toNat]?).bind fun v1=>
 (bif (!(Cl v0 v1))then some false else self (d.1,d.2.1,(aa .i64 (d.2.2+(1:Int)))))else none)else none)else some true)
def uj(k:Nat)(x0:(List ByteArray))(x1:(List ByteArray)):Option Bool:=
 (bif ((x0.length:Int) != (x1.length:Int))then some false else iter k (o5 k) (x0,x1,(0:Int)))
theorem yq(k:Nat)(x0:(List ByteArray))(x1:(List ByteArray)):lB (k+1) (x0,x1)=uj k x0 x1:=by kernel_rfl
def AK(k:Nat)(x0:aI)(x1:aI):Option Bool:=
 (bif (x0.1 != x1.1)then some false else(bif (x0.2 != x1.2)then some false else some true))
theorem B4(k:Nat)(x0:aI)(x1:aI):ku (k+1) (x0,x1)=AK k x0 x1:=by kernel_rfl
def qV(k:Nat)(self:_→Option Bool)(d:((List aI)×((List aI)×Int))):=
 (bif (decide (d.2.2<(d.1.length:Int)))then(if 0≤d.2.2 then(d.1[d.2.2.toNat]?).bind fun v0=>
 (if 0≤d.2.2 then(d.2.1[d.2.2.toNat]?).bind fun v1=>
 (ku k (v0,v1)).bind fun v2=>
 (bif (!v2)then some false else self (d.1,d.2.1,(aa .i64 (d.2.2+(1:Int)))))else none)else none)else some true)
def xw(k:Nat)(x0:(List aI))(x1:(List aI)):Option Bool:=
 (bif ((x0.length:Int) != (x1.length:Int))then some false else iter k (qV k) (x0,x1,(0:Int)))
theorem zQ(k:Nat)(x0:(List aI))(x1:(List aI)):mW (k+1) (x0,x1)=xw k x0 x1:=by kernel_rfl
def vg(k:Nat)(self:_→Option Bool)(d:((List Int)×((List Int)×Int))):=
 (bif (decide (d.2.2<(d.1.length:Int)))then(if 0≤d.2.2 then(d.1[d.2.2.toNat]?).bind fun v0=>
 (if 0≤d.2.2 then(d.2.1[d.2.2.toNat]?).bind fun v1=>
 (bif (v0 != v1)then some false else self (d.1,d.2.1,(aa .i64 (d.2.2+(1:Int)))))else none)else none)else some true)
def CC(k:Nat)(x0:(List Int))(x1:(List Int)):Option Bool:=
 (bif ((x0.length:Int) != (x1.length:Int))then some false else iter k (vg k) (x0,x1,(0:Int)))
theorem Dw(k:Nat)(x0:(List Int))(x1:(List Int)):lY (k+1) (x0,x1)=CC k x0 x1:=by kernel_rfl
def tP(k:Nat)(x0:aj)(x1:aj):Option Bool:=
 (bif (x0.1 != x1.1)then some false else(bif (x0.2.1 != x1.2.1)then some false else(bif (x0.2.2 != x1.2.2)then some false else some true)))
theorem wQ(k:Nat)(x0:aj)(x1:aj):gS (k+1) (x0,x1)=tP k x0 x1:=by kernel_rfl
def nk(k:Nat)(self:_→Option Bool)(d:((List aj)×((List aj)×Int))):=
 (bif (decide (d.2.2<(d.1.length:Int)))then(if 0≤d.2.2 then(d.1[d.2.2.toNat]?).bind fun v0=>
 (if 0≤d.2.2 then(d.2.1[d.2.2.toNat]?).bind fun v1=>
 (gS k (v0,v1)).bind fun v2=>
 (bif (!v2)then some false else self (d.1,d.2.1,(aa .i64 (d.2.2+(1:Int)))))else none)else none)else some true)
def rq(k:Nat)(x0:(List aj))(x1:(List aj)):Option Bool:=
 (bif ((x0.length:Int) != (x1.length:Int))then some false else iter k (nk k) (x0,x1,(0:Int)))
theorem uV(k:Nat)(x0:(List aj))(x1:(List aj)):fO (k+1) (x0,x1)=rq k x0 x1:=by kernel_rfl
def Be(k:Nat)(x0:aE)(x1:aE):Option Bool:=
 (bif (x0.1 != x1.1)then some false else(bif (x0.2.1 != x1.2.1)then some false else(bif (x0.2.2.1 != x1.2.2.1)then some false else(bif (x0.2.2.2.1 != x1.2.2.2.1)then some false else(bif (x0.2.2.2.2.1 != x1.2.2.2.2.1)then some false else(bif (x0.2.2.2.2.2.1 != x1.2.2.2.2.2.1)then some false else(bif (x0.2.2.2.2.2.2.1 != x1.2.2.2.2.2.2.1)then some false else(lY k (x0.2.2.2.2.2.2.2.1,x1.2.2.2.2.2.2.2.1)).bind fun y1=>
 (bif (!y1)then some false else(fO k (x0.2.2.2.2.2.2.2.2.1,x1.2.2.2.2.2.2.2.2.1)).bind fun y2=>
 (bif (!y2)then some false else(fO k (x0.2.2.2.2.2.2.2.2.2,x1.2.2.2.2.2.2.2.2.2)).bind fun y3=>
 (bif (!y3)then some false else some true))))))))))
theorem BR(k:Nat)(x0:aE)(x1:aE):kN (k+1) (x0,x1)=Be k x0 x1:=by kernel_rfl
def rD(k:Nat)(self:_→Option Bool)(d:((List aE)×((List aE)×Int))):=
 (bif (decide (d.2.2<(d.1.length:Int)))then(if 0≤d.2.2 then(d.1[d.2.2.toNat]?).bind fun v0=>
 (if 0≤d.2.2 then(d.2.1[d.2.2.toNat]?).bind fun v1=>
 (kN k (v0,v1)).bind fun v2=>
 (bif (!v2)then some false else self (d.1,d.2.1,(aa .i64 (d.2.2+(1:Int)))))else none)else none)else some true)
def xy(k:Nat)(x0:(List aE))(x1:(List aE)):Option Bool:=
 (bif ((x0.length:Int) != (x1.length:Int))then some false else iter k (rD k) (x0,x1,(0:Int)))
theorem A3(k:Nat)(x0:(List aE))(x1:(List aE)):mY (k+1) (x0,x1)=xy k x0 x1:=by kernel_rfl
def GW(k:Nat)(x0:bW)(x1:bW):Option Bool:=
 (bif (x0.1 != x1.1)then some false else(mW k (x0.2.1,x1.2.1)).bind fun y1=>
 (bif (!y1)then some false else(mY k (x0.2.2.1,x1.2.2.1)).bind fun y2=>
 (bif (!y2)then some false else(lB k (x0.2.2.2,x1.2.2.2)).bind fun y3=>
 (bif (!y3)then some false else some true))))
theorem Gd(k:Nat)(x0:bW)(x1:bW):pC (k+1) (x0,x1)=GW k x0 x1:=by kernel_rfl
def CO(k:Nat)(x0:aS)(x1:aS):Option Bool:=
 (bif (x0.1 != x1.1)then some false else(bif (x0.2.1 != x1.2.1)then some false else(lY k (x0.2.2,x1.2.2)).bind fun y1=>
 (bif (!y1)then some false else some true)))
theorem DB(k:Nat)(x0:aS)(x1:aS):pZ (k+1) (x0,x1)=CO k x0 x1:=by kernel_rfl
def Fx(k:Nat)(x0:Int)(x1:Int)(x2:Int):Option Bool:=
 (bif (decide (x1≤x0))then some (decide (x0≤x2))else some false)
theorem FC(k:Nat)(x0:Int)(x1:Int)(x2:Int):aQ (k+1) (x0,x1,x2)=Fx k x0 x1 x2:=by kernel_rfl
def Au(k:Nat)(x0:Int):Option Bool:=
 (aQ k (x0,(0:Int),(3:Int))).bind fun y1=>
 some y1
theorem BA(k:Nat)(x0:Int):bD (k+1) (x0)=Au k x0:=by kernel_rfl
def jv(k:Nat)(self:_→Option Bool)(d:((List Int)×((List Int)×aI))):=
 (bif (decide (d.2.2.2<d.2.2.1))then(if 0≤d.2.2.2 then(d.2.1[d.2.2.2.toNat]?).bind fun v0=>
 (if 0≤d.2.2.2 then(d.1[d.2.2.2.toNat]?).bind fun v1=>
 (bif (v0 != v1)then some false else self (d.1,d.2.1,d.2.2.1,(aa .i64 (d.2.2.2+(1:Int)))))else none)else none)else some true)
def AI(k:Nat)(x0:(List Int))(x1:(List Int)):Option Bool:=
 (bif ((x0.length:Int) != (x1.length:Int))then some false else iter k (jv k) (x1,x0,(x0.length:Int),(0:Int)))
theorem Cp(k:Nat)(x0:(List Int))(x1:(List Int)):nU (k+1) (x0,x1)=AI k x0 x1:=by kernel_rfl
def jn(k:Nat)(self:_→Option Bool)(d:((List aj)×((List aj)×aI))):=
 (bif (decide (d.2.2.2<d.2.2.1))then(if 0≤d.2.2.2 then(d.2.1[d.2.2.2.toNat]?).bind fun v0=>
 (if 0≤d.2.2.2 then(d.1[d.2.2.2.toNat]?).bind fun v1=>
 (bif (!((v0.1==v1.1)&&((v0.2.1==v1.2.1)&&(v0.2.2==v1.2.2))))then some false else self (d.1,d.2.1,d.2.2.1,(aa .i64 (d.2.2.2+(1:Int)))))else none)else none)else some true)
def Bg(k:Nat)(x0:(List aj))(x1:(List aj)):Option Bool:=
 (bif ((x0.length:Int) != (x1.length:Int))then some false else iter k (jn k) (x1,x0,(x0.length:Int),(0:Int)))
theorem BW(k:Nat)(x0:(List aj))(x1:(List aj)):kg (k+1) (x0,x1)=Bg k x0 x1:=by kernel_rfl
def vL(k:Nat)(x0:aE)(x1:aE):Option Bool:=
 (bif (x0.1 != x1.1)then some false else(bif (x0.2.1 != x1.2.1)then some false else(bif (x0.2.2.1 != x1.2.2.1)then some false else(bif (x0.2.2.2.1 != x1.2.2.2.1)then some false else(bif (x0.2.2.2.2.1 != x1.2.2.2.2.1)then some false else(bif (x0.2.2.2.2.2.1 != x1.2.2.2.2.2.1)then some false else(bif (x0.2.2.2.2.2.2.1 != x1.2.2.2.2.2.2.1)then some false else(nU k (x0.2.2.2.2.2.2.2.1,x1.2.2.2.2.2.2.2.1)).bind fun y1=>
 (bif y1 then(kg k (x0.2.2.2.2.2.2.2.2.1,x1.2.2.2.2.2.2.2.2.1)).bind fun y2=>
 (bif y2 then(kg k (x0.2.2.2.2.2.2.2.2.2,x1.2.2.2.2.2.2.2.2.2)).bind fun y3=>
 some y3 else some false)else some false))))))))
theorem yK(k:Nat)(x0:aE)(x1:aE):lE (k+1) (x0,x1)=vL k x0 x1:=by kernel_rfl
def Ao(k:Nat)(x0:Int):Option Bool:=
 (aQ k (x0,(0:Int),(2047:Int))).bind fun y1=>
 some y1
theorem Cr(k:Nat)(x0:Int):de (k+1) (x0)=Ao k x0:=by kernel_rfl
def pq(k:Nat)(x0:Int):Option Int:=
 (bif (decide (x0≤(0:Int)))then some (0:Int)else(if((32:Int):Int)≠0 then some (aa .i64 ((aa .i64 ((aa .i64 (x0-(1:Int))).tdiv (32:Int)))+(1:Int)))else none))
theorem tX(k:Nat)(x0:Int):dD (k+1) (x0)=pq k x0:=by kernel_rfl
def kS(k:Nat)(self:_→Option Bool)(d:(Int×((List Int)×aI))):=
 (bif (decide (d.2.2.2<d.2.2.1))then(if 0≤d.2.2.2 then(d.2.1[d.2.2.2.toNat]?).bind fun v0=>
 (bif (v0==d.1)then some true else self (d.1,d.2.1,d.2.2.1,(aa .i64 (d.2.2.2+(1:Int)))))else none)else some false)
def CJ(k:Nat)(x0:(List Int))(x1:Int):Option Bool:=
 iter k (kS k) (x1,x0,(x0.length:Int),(0:Int))
theorem Dl(k:Nat)(x0:(List Int))(x1:Int):l3 (k+1) (x0,x1)=CJ k x0 x1:=by kernel_rfl
def xH(k:Nat)(x0:aj):Option Bool:=
 (aQ k (x0.2.2,(0:Int),(7:Int))).bind fun y1=>
 (bif (!y1)then some false else(bif (x0.1==(1:Int))then(bif (x0.1==(1:Int))then(aQ k (x0.2.1,(0:Int),(3:Int))).bind fun y2=>
 some y2 else(bif (x0.1==(3:Int))then some (x0.2.1==(0:Int))else some false))else(bif (x0.1==(2:Int))then(aQ k (x0.2.1,(0:Int),(3:Int))).bind fun y3=>
 some y3 else(bif (x0.1==(3:Int))then some (x0.2.1==(0:Int))else some false))))
theorem Ax(k:Nat)(x0:aj):mL (k+1) (x0)=xH k x0:=by kernel_rfl
def l6(k:Nat)(self:_→Option Bool)(d:((List aj)×((List aj)×aI))):=
 (bif (decide (d.2.2.2<d.2.2.1))then(if 0≤d.2.2.2 then(d.2.1[d.2.2.2.toNat]?).bind fun v0=>
 (mL k v0).bind fun v1=>
 (bif (!v1)then some false else(bif (decide ((0:Int)<d.2.2.2))then(if 0≤(aa .i64 (d.2.2.2-(1:Int)))then(d.1[(aa .i64 (d.2.2.2-(1:Int))).toNat]?).bind fun v2=>
 (bif (decide (v0.1<v2.1))then some false else(if 0≤(aa .i64 (d.2.2.2-(1:Int)))then(d.1[(aa .i64 (d.2.2.2-(1:Int))).toNat]?).bind fun v3=>
 (bif (v3.1==v0.1)then(if 0≤(aa .i64 (d.2.2.2-(1:Int)))then(d.1[(aa .i64 (d.2.2.2-(1:Int))).toNat]?).bind fun v4=>
 (bif (decide (v0.2.1≤v4.2.1))then some false else self (d.1,d.2.1,d.2.2.1,(aa .i64 (d.2.2.2+(1:Int)))))else none)else self (d.1,d.2.1,d.2.2.1,(aa .i64 (d.2.2.2+(1:Int)))))else none))else none)else self (d.1,d.2.1,d.2.2.1,(aa .i64 (d.2.2.2+(1:Int))))))else none)else(bif ((d.1.length:Int)==(0:Int))then some true else(bif (decide ((d.1.length:Int)≤(6:Int)))then(if 0≤(aa .i64 ((d.1.length:Int)-(1:Int)))then(d.1[(aa .i64 ((d.1.length:Int)-(1:Int))).toNat]?).bind fun v5=>
 some (v5.1==(3:Int))else none)else some false)))
def EX(k:Nat)(x0:(List aj)):Option Bool:=
 iter k (l6 k) (x0,x0,(x0.length:Int),(0:Int))
theorem EJ(k:Nat)(x0:(List aj)):iE (k+1) (x0)=EX k x0:=by kernel_rfl
def jq(k:Nat)(self:_→Option Bool)(d:(Unit×((List Int)×(Int×(Int×aE))))):=
 let e0:=d.2.2.2.2
 (bif (decide (d.2.2.2.1<d.2.2.1))then(if 0≤d.2.2.2.1 then(d.2.1[d.2.2.2.1.toNat]?).bind fun v0=>
 (aQ k (v0,(-1:Int),(999:Int))).bind fun v1=>
 (bif (!v1)then some false else(bif (v0 != (-1:Int))then(if 0≤d.2.2.2.1 then(if d.2.2.2.1≤(e0.2.2.2.2.2.2.2.1.length:Int)then(l3 k (((e0.2.2.2.2.2.2.2.1.take d.2.2.2.1.toNat).drop 0),v0)).bind fun v2=>
 (bif v2 then some false else self ((),d.2.1,d.2.2.1,(aa .i64 (d.2.2.2.1+(1:Int))),e0))else none)else none)else self ((),d.2.1,d.2.2.1,(aa .i64 (d.2.2.2.1+(1:Int))),e0)))else none)else(o4 (R:=Bool) ((bif (e0.1==(1:Int))then(bif (decide ((0:Int)<(e0.2.2.2.2.2.2.2.2.2.length:Int)))then((some false).map .inr)else(bif ((intBits .and .i64 e0.2.1 (512:Int)) != (0:Int))then((some false).map .inr)else some (.inl ((),e0))))else some (.inl ((),e0)))) fun(v3:(Unit×aE))=>(iE k v3.2.2.2.2.2.2.2.2.2.1).bind fun v4=>
 (bif v4 then(iE k v3.2.2.2.2.2.2.2.2.2.2).bind fun v5=>
 some v5 else some false)))
def Bi(k:Nat)(x0:aE):Option Bool:=
 (bif (x0.1==(0:Int))then(lE k (x0,((0:Int),(0:Int),(0:Int),(0:Int),(0:Int),(0:Int),(0:Int),([]:List Int),([]:List aj),([]:List aj)))).bind fun y1=>
 some y1 else(o4 (R:=Bool) ((bif (x0.1 != (1:Int))then(bif (x0.1 != (2:Int))then((some false).map .inr)else(de k x0.2.1).bind fun y3=>
 (bif (!y3)then((some false).map .inr)else(bD k x0.2.2.1).bind fun y4=>
 (bif (!y4)then((some false).map .inr)else(bD k x0.2.2.2.1).bind fun y5=>
 (bif (!y5)then((some false).map .inr)else(aQ k (x0.2.2.2.2.1,(0:Int),(1000:Int))).bind fun y6=>
 (bif (!y6)then((some false).map .inr)else(aQ k (x0.2.2.2.2.2.1,(0:Int),(256:Int))).bind fun y7=>
 (bif (!y7)then((some false).map .inr)else(aQ k (x0.2.2.2.2.2.2.1,(0:Int),(1000000000:Int))).bind fun y8=>
 (bif (!y8)then((some false).map .inr)else(dD k x0.2.2.2.2.2.1).bind fun y9=>
 (bif ((x0.2.2.2.2.2.2.2.1.length:Int) != y9)then((some false).map .inr)else some (.inl ((),x0))))))))))else(de k x0.2.1).bind fun y10=>
 (bif (!y10)then((some false).map .inr)else(bD k x0.2.2.1).bind fun y11=>
 (bif (!y11)then((some false).map .inr)else(bD k x0.2.2.2.1).bind fun y12=>
 (bif (!y12)then((some false).map .inr)else(aQ k (x0.2.2.2.2.1,(0:Int),(1000:Int))).bind fun y13=>
 (bif (!y13)then((some false).map .inr)else(aQ k (x0.2.2.2.2.2.1,(0:Int),(256:Int))).bind fun y14=>
 (bif (!y14)then((some false).map .inr)else(aQ k (x0.2.2.2.2.2.2.1,(0:Int),(1000000000:Int))).bind fun y15=>
 (bif (!y15)then((some false).map .inr)else(dD k x0.2.2.2.2.2.1).bind fun y16=>
 (bif ((x0.2.2.2.2.2.2.2.1.length:Int) != y16)then((some false).map .inr)else some (.inl ((),x0))))))))))) fun(d2:(Unit×aE))=>iter k (jq k) ((),d2.2.2.2.2.2.2.2.2.1,(d2.2.2.2.2.2.2.2.2.1.length:Int),(0:Int),d2.2)))
theorem Bl(k:Nat)(x0:aE):og (k+1) (x0)=Bi k x0:=by kernel_rfl
def s8(k:Nat)(x0:Int):Option Int:=
 (aQ k (x0,(0:Int),(55:Int))).bind fun y1=>
 (bif (!y1)then some (-1:Int)else(if((14:Int):Int)≠0 then some (aa .i64 (x0.tdiv (14:Int)))else none))
theorem wW(k:Nat)(x0:Int):gE (k+1) (x0)=s8 k x0:=by kernel_rfl
def fW(k:Nat)(a0:_→Option ((List Bool)×Bool))(self:_→Option ((List Bool)×Bool))(d:((List Bool)×(Unit×((List aE)×(Int×(Int×((List Int)×(Int×(Int×aE))))))))):=
 let e0:=d.2.2.2.2
 (bif (decide (e0.2.2.2.1<e0.2.2.1))then(if 0≤e0.2.2.2.1 then(e0.2.1[e0.2.2.2.1.toNat]?).bind fun v0=>
 (bif (v0==(-1:Int))then self (d.1,(),d.2.2.1,d.2.2.2.1,e0.1,e0.2.1,e0.2.2.1,(aa .i64 (e0.2.2.2.1+(1:Int))),e0.2.2.2.2)else(gE k v0).bind fun v1=>
 (bif (v1 != e0.2.2.2.2.2.2.1)then some (([]:List Bool),false)else(if 0≤v0 then(if v0<(d.1.length:Int)then(d.1[v0.toNat]?).bind fun v2=>
 (bif v2 then some (([]:List Bool),false)else(if 0≤v0 then(if v0<(d.1.length:Int)then(d.1[v0.toNat]?).bind fun v3=>
 self ((d.1.set v0.toNat true),(),d.2.2.1,d.2.2.2.1,e0.1,e0.2.1,e0.2.2.1,(aa .i64 (e0.2.2.2.1+(1:Int))),e0.2.2.2.2)else none)else none))else none)else none)))else none)else a0 (d.1,d.2.2.1,d.2.2.2.1,(aa .i64 (e0.1+(1:Int)))))
def jo(k:Nat)(self:_→Option ((List Bool)×Bool))(d:((List Bool)×((List aE)×aI))):=
 (bif (decide (d.2.2.2<d.2.2.1))then(if 0≤d.2.2.2 then(d.2.1[d.2.2.2.toNat]?).bind fun v0=>
 iter k (fW k self) (d.1,(),d.2.1,d.2.2.1,d.2.2.2,v0.2.2.2.2.2.2.2.1,(v0.2.2.2.2.2.2.2.1.length:Int),(0:Int),v0)else none)else some (d.1,true))
def Av(k:Nat)(x0:bW):Option ((List Bool)×Bool):=
 (if 0≤(56:Int)then(if(56:Int)≤(56:Int)then(if(56:Int)*1≤(au:Int)then iter k (jo k) ((List.replicate (56:Int).toNat false),x0.2.2.1,(x0.2.2.1.length:Int),(0:Int))else none)else none)else none)
theorem Bw(k:Nat)(x0:bW):od (k+1) (x0)=Av k x0:=by kernel_rfl
def iP(k:Nat)(self:_→Option Bool)(d:ar):=
 (bif (decide (d.2<(d.1.size:Int)))then(if 0≤d.2 then((d.1[d.2.toNat]?.map fun v0=>(v0.toNat:Int))).bind fun v1=>
 (bif (v1 != (0:Int))then some false else self (d.1,(aa .i64 (d.2+(1:Int)))))else none)else some true)
def xX(k:Nat)(x0:ByteArray):Option Bool:=
 iter k (iP k) (x0,(0:Int))
theorem AY(k:Nat)(x0:ByteArray):jt (k+1) (x0)=xX k x0:=by kernel_rfl
def ig(k:Nat)(self:_→Option Bool)(d:(Unit×((List aE)×(Int×(Int×bW))))):=
 let e0:=d.2.2.2.2
 (bif (decide (d.2.2.2.1<d.2.2.1))then(if 0≤d.2.2.2.1 then(d.2.1[d.2.2.2.1.toNat]?).bind fun v0=>
 (bif (decide ((0:Int)≤(aa .i64 ((v0.2.2.2.2.2.2.2.1.length:Int)-(1:Int)))))then(if 0≤(aa .i64 ((v0.2.2.2.2.2.2.2.1.length:Int)-(1:Int)))then(v0.2.2.2.2.2.2.2.1[(aa .i64 ((v0.2.2.2.2.2.2.2.1.length:Int)-(1:Int))).toNat]?).bind fun v1=>
 (bif (v1 != (-1:Int))then(if 0≤(aa .i64 ((v0.2.2.2.2.2.2.2.1.length:Int)-(1:Int)))then(v0.2.2.2.2.2.2.2.1[(aa .i64 ((v0.2.2.2.2.2.2.2.1.length:Int)-(1:Int))).toNat]?).bind fun v2=>
 (if 0≤v2 then(e0.2.2.2[v2.toNat]?).bind fun v3=>
 (if 0≤(aa .i64 (v0.2.2.2.2.2.1-(aa .i64 ((aa .i64 ((v0.2.2.2.2.2.2.2.1.length:Int)-(1:Int)))*(32:Int)))))then(if(aa .i64 (v0.2.2.2.2.2.1-(aa .i64 ((aa .i64 ((v0.2.2.2.2.2.2.2.1.length:Int)-(1:Int)))*(32:Int)))))≤(v3.size:Int)then(jt k (v3.extract ((aa .i64 (v0.2.2.2.2.2.1-(aa .i64 ((aa .i64 ((v0.2.2.2.2.2.2.2.1.length:Int)-(1:Int)))*(32:Int))))).toNat) v3.size)).bind fun v4=>
 (bif (!v4)then some false else self ((),d.2.1,d.2.2.1,(aa .i64 (d.2.2.2.1+(1:Int))),e0))else none)else none)else none)else none)else self ((),d.2.1,d.2.2.1,(aa .i64 (d.2.2.2.1+(1:Int))),e0))else none)else self ((),d.2.1,d.2.2.1,(aa .i64 (d.2.2.2.1+(1:Int))),e0))else none)else some true)
def iD(k:Nat)(self:_→Option Bool)(d:(Unit×((List Bool)×((List ByteArray)×(Int×(Int×bW)))))):=
 let e0:=d.2.2.2.2
 (bif (decide (e0.1<d.2.2.2.1))then(if 0≤e0.1 then(d.2.2.1[e0.1.toNat]?).bind fun v0=>
 (bif ((v0.size:Int) != (32:Int))then some false else(if 0≤e0.1 then(if e0.1<(d.2.1.length:Int)then(d.2.1[e0.1.toNat]?).bind fun v1=>
 (bif (!v1)then(jt k v0).bind fun v2=>
 (bif (!v2)then some false else self ((),d.2.1,d.2.2.1,d.2.2.2.1,(aa .i64 (e0.1+(1:Int))),e0.2))else self ((),d.2.1,d.2.2.1,d.2.2.2.1,(aa .i64 (e0.1+(1:Int))),e0.2))else none)else none))else none)else iter k (ig k) ((),e0.2.2.2.1,(e0.2.2.2.1.length:Int),(0:Int),e0.2))
def iG(k:Nat)(self:_→Option Bool)(d:(Unit×((List aE)×(Int×(Int×bW))))):=
 let e0:=d.2.2.2.2
 (bif (decide (d.2.2.2.1<d.2.2.1))then(if 0≤d.2.2.2.1 then(d.2.1[d.2.2.2.1.toNat]?).bind fun v0=>
 (og k v0).bind fun v1=>
 (bif (!v1)then some false else self ((),d.2.1,d.2.2.1,(aa .i64 (d.2.2.2.1+(1:Int))),e0))else none)else(if 0≤(0:Int)then(e0.2.2.1[(0:Int).toNat]?).bind fun v2=>
 (bif (v2.1 != (2:Int))then some false else(od k e0).bind fun v3=>
 (bif (!v3.2)then some false else iter k (iD k) ((),v3.1,e0.2.2.2,(e0.2.2.2.length:Int),(0:Int),e0)))else none))
def nF(k:Nat)(self:_→Option Bool)(d:(Unit×((List aI)×(Int×(Int×bW))))):=
 let e0:=d.2.2.2.2
 (bif (decide (d.2.2.2.1<d.2.2.1))then(if 0≤d.2.2.2.1 then(d.2.1[d.2.2.2.1.toNat]?).bind fun v0=>
 (aQ k (v0.1,(0:Int),(5:Int))).bind fun v1=>
 (bif (!v1)then some false else(aQ k (v0.2,(0:Int),(14:Int))).bind fun v2=>
 (bif (!v2)then some false else self ((),d.2.1,d.2.2.1,(aa .i64 (d.2.2.2.1+(1:Int))),e0)))else none)else iter k (iG k) ((),e0.2.2.1,(e0.2.2.1.length:Int),(0:Int),e0))
def Hc(k:Nat)(x0:bW):Option Bool:=
 (aQ k (x0.1,(0:Int),(1000000000:Int))).bind fun y1=>
 (bif (!y1)then some false else(bif ((x0.2.1.length:Int) != (4:Int))then some false else(bif ((x0.2.2.1.length:Int) != (20:Int))then some false else(bif ((x0.2.2.2.length:Int) != (56:Int))then some false else iter k (nF k) ((),x0.2.1,(x0.2.1.length:Int),(0:Int),x0)))))
theorem Gz(k:Nat)(x0:bW):jY (k+1) (x0)=Hc k x0:=by kernel_rfl
def kt(k:Nat)(self:_→Option Bool)(d:(Unit×((List Int)×(Int×(Int×aS))))):=
 let e0:=d.2.2.2.2
 (bif (decide (d.2.2.2.1<d.2.2.1))then(if 0≤d.2.2.2.1 then(d.2.1[d.2.2.2.1.toNat]?).bind fun v0=>
 (bD k v0).bind fun v1=>
 (bif (!v1)then some false else(bif (decide ((0:Int)<d.2.2.2.1))then(if 0≤(aa .i64 (d.2.2.2.1-(1:Int)))then(e0.2.2[(aa .i64 (d.2.2.2.1-(1:Int))).toNat]?).bind fun v2=>
 (bif (decide (v0≤v2))then some false else self ((),d.2.1,d.2.2.1,(aa .i64 (d.2.2.2.1+(1:Int))),e0))else none)else self ((),d.2.1,d.2.2.1,(aa .i64 (d.2.2.2.1+(1:Int))),e0)))else none)else(bD k e0.1).bind fun v3=>
 (bif v3 then(bD k e0.2.1).bind fun v4=>
 some v4 else some false))
def CQ(k:Nat)(x0:aS):Option Bool:=
 iter k (kt k) ((),x0.2.2,(x0.2.2.length:Int),(0:Int),x0)
theorem DG(k:Nat)(x0:aS):je (k+1) (x0)=CQ k x0:=by kernel_rfl
def dc(k:Nat)(self:_→Option Int)(d:aI):=
 (bif (decide (d.2<(2:Int)))then(if((8:Int):Int)≠0 then self ((aa .i64 (d.1.tdiv (8:Int))),(aa .i64 (d.2+(1:Int))))else none)else(if((8:Int):Int)≠0 then some (d.1.tmod (8:Int))else none))
def uE(k:Nat)(x0:Int)(x1:Int):Option Int:=
 (de k x0).bind fun y1=>
 (bif (!y1)then some (0:Int)else(aQ k (x1,(0:Int),(2:Int))).bind fun y2=>
 (bif (!y2)then some (0:Int)else iter k (dc k) (x0,x1)))
theorem tR(k:Nat)(x0:Int)(x1:Int):eR (k+1) (x0,x1)=uE k x0 x1:=by kernel_rfl
def Ed(k:Nat)(x0:Int)(x1:Int):Option Bool:=
 some ((intBits .and .i64 x0 x1)==x1)
theorem zi(k:Nat)(x0:Int)(x1:Int):cI (k+1) (x0,x1)=Ed k x0 x1:=by kernel_rfl
def Fq(k:Nat)(self:_→Option Int)(d:((List aj)×aI)):=
 (bif (decide (d.2.2<d.2.1))then(if 0≤d.2.2 then(d.1[d.2.2.toNat]?).bind fun v0=>
 (bif (v0.1==(3:Int))then some v0.2.2 else self (d.1,d.2.1,(aa .i64 (d.2.2+(1:Int)))))else none)else some (7:Int))
def JF(k:Nat)(x0:(List aj)):Option Int:=
 iter k (Fq k) (x0,(x0.length:Int),(0:Int))
theorem DL(k:Nat)(x0:(List aj)):pM (k+1) (x0)=JF k x0:=by kernel_rfl
def DS(k:Nat)(self:_→Option (Int×Bool))(d:(Int×(Int×((List aj)×aI)))):=
 let e0:=d.2.2.2.2
 (bif (decide (e0<d.2.2.2.1))then(if 0≤e0 then(d.2.2.1[e0.toNat]?).bind fun v0=>
 (bif (v0.1==d.1)then(bif (v0.2.1==d.2.1)then some (v0.2.2,true)else self (d.1,d.2.1,d.2.2.1,d.2.2.2.1,(aa .i64 (e0+(1:Int)))))else self (d.1,d.2.1,d.2.2.1,d.2.2.2.1,(aa .i64 (e0+(1:Int)))))else none)else some ((0:Int),false))
def I9(k:Nat)(x0:(List aj))(x1:Int)(x2:Int):Option (Int×Bool):=
 iter k (DS k) (x1,x2,x0,(x0.length:Int),(0:Int))
theorem BS(k:Nat)(x0:(List aj))(x1:Int)(x2:Int):oa (k+1) (x0,x1,x2)=I9 k x0 x1 x2:=by kernel_rfl
def A5(k:Nat)(x0:aS)(x1:Int):Option Bool:=
 (bif (x0.2.1==x1)then some true else(l3 k (x0.2.2,x1)).bind fun y1=>
 some y1)
theorem B6(k:Nat)(x0:aS)(x1:Int):kH (k+1) (x0,x1)=A5 k x0 x1:=by kernel_rfl
def fY(k:Nat)(self:_→Option Bool)(d:(Int×(Int×(Unit×(Int×(Bool×(Bool×((List aj)×(Int×(Int×aS)))))))))):=
 let e0:=d.2.2.2.2
 let e1:=e0.2.2.2.2
 (bif (decide (e1.1<e0.2.2.2.1))then(if 0≤e1.1 then(e0.2.2.1[e1.1.toNat]?).bind fun v0=>
 (bif (v0.1==(2:Int))then(kH k (e1.2,v0.2.1)).bind fun v1=>
 (bif v1 then(bif e0.2.1 then self (d.1,d.2.1,(),d.2.2.2.1,true,true,e0.2.2.1,e0.2.2.2.1,(aa .i64 (e1.1+(1:Int))),e1.2)else(cI k (v0.2.2,d.2.1)).bind fun v2=>
 self (d.1,d.2.1,(),d.2.2.2.1,true,v2,e0.2.2.1,e0.2.2.2.1,(aa .i64 (e1.1+(1:Int))),e1.2))else self (d.1,d.2.1,(),d.2.2.2.1,e0.1,e0.2.1,e0.2.2.1,e0.2.2.2.1,(aa .i64 (e1.1+(1:Int))),e1.2))else self (d.1,d.2.1,(),d.2.2.2.1,e0.1,e0.2.1,e0.2.2.1,e0.2.2.2.1,(aa .i64 (e1.1+(1:Int))),e1.2))else none)else(bif e0.1 then(bif e0.2.1 then(cI k (d.2.2.2.1,d.2.1)).bind fun v3=>
 some v3 else some false)else(eR k (d.1,(2:Int))).bind fun v4=>
 (cI k (v4,d.2.1)).bind fun v5=>
 some v5))
def sD(k:Nat)(x0:aS)(x1:Int)(x2:Int)(x3:Int)(x4:(List aj))(x5:Int):Option Bool:=
 (je k x0).bind fun y1=>
 (bif (!y1)then some false else(iE k x4).bind fun y2=>
 (bif (!y2)then some false else(bD k x1).bind fun y3=>
 (bif (!y3)then some false else(bD k x2).bind fun y4=>
 (bif (!y4)then some false else(de k x3).bind fun y5=>
 (bif (!y5)then some false else(aQ k (x5,(0:Int),(7:Int))).bind fun y6=>
 (bif (!y6)then some false else(bif (x0.1==(0:Int))then some true else(bif (x0.1==x1)then(eR k (x3,(0:Int))).bind fun y7=>
 (cI k (y7,x5)).bind fun y8=>
 some y8 else(pM k x4).bind fun y9=>
 (oa k (x4,(1:Int),x0.1)).bind fun y10=>
 (bif y10.2 then(cI k ((intBits .and .i64 y10.1 y9),x5)).bind fun y11=>
 some y11 else(o4 (R:=Bool) ((kH k (x0,x2)).bind fun y13=>
 (bif y13 then(eR k (x3,(1:Int))).bind fun y14=>
 (cI k (y14,x5)).bind fun y15=>
 some (.inl (x3,x4,x5,(),y9,true,y15,x0))else some (.inl (x3,x4,x5,(),y9,false,false,x0)))) fun(d12:(Int×((List aj)×(Int×(Unit×(Int×(Bool×(Bool×aS))))))))=>let e0:=d12.2.2.2.2;iter k (fY k) (d12.1,d12.2.2.1,(),e0.1,e0.2.1,e0.2.2.1,d12.2.1,(d12.2.1.length:Int),(0:Int),e0.2.2.2)))))))))))
theorem rz(k:Nat)(x0:aS)(x1:Int)(x2:Int)(x3:Int)(x4:(List aj))(x5:Int):oq (k+1) (x0,x1,x2,x3,x4,x5)=sD k x0 x1 x2 x3 x4 x5:=by kernel_rfl
def CU(k:Nat)(x0:bW)(x1:aS)(x2:Int)(x3:Int):Option Bool:=
 (if 0≤x2 then(x0.2.2.1[x2.toNat]?).bind fun y1=>
 (oq k (x1,y1.2.2.1,y1.2.2.2.1,y1.2.1,y1.2.2.2.2.2.2.2.2.1,x3)).bind fun y2=>
 some y2 else none)
theorem Du(k:Nat)(x0:bW)(x1:aS)(x2:Int)(x3:Int):eQ (k+1) (x0,x1,x2,x3)=CU k x0 x1 x2 x3:=by kernel_rfl
def lZ(k:Nat)(self:_→Option ByteArray)(d:(Int×(List Int))):=
 (bif (decide ((d.2.length:Int)<d.1))then(if(d.2.length+([(0:Int)]:List Int).length)*1≤au then self (d.1,(d.2++([(0:Int)]:List Int)))else none)else some (ofBytes d.2))
def Ey(k:Nat)(x0:ByteArray)(x1:Int):Option ByteArray:=
 (bif (decide ((100000:Int)<x1))then some (⟨#[]⟩:ByteArray)else iter k (lZ k) (x1,(bytesOf x0)))
theorem Em(k:Nat)(x0:ByteArray)(x1:Int):kO (k+1) (x0,x1)=Ey k x0 x1:=by kernel_rfl
def ju(k:Nat)(self:_→Option ByteArray)(d:(Unit×(Unit×(ByteArray×((List Int)×(Int×(Int×(aE×bW)))))))):=
 let e0:=d.2.2.2.2
 (bif (decide (e0.2.1<e0.1))then(if 0≤e0.2.1 then(d.2.2.2.1[e0.2.1.toNat]?).bind fun v0=>
 (bif (v0==(-1:Int))then(kO k ((⟨#[]⟩:ByteArray),(32:Int))).bind fun v1=>
 (if d.2.2.1.size+v1.size≤9223372036854775807 then self ((),(),(d.2.2.1++v1),d.2.2.2.1,e0.1,(aa .i64 (e0.2.1+(1:Int))),e0.2.2.1,e0.2.2.2)else none)else(if 0≤v0 then(e0.2.2.2.2.2.2[v0.toNat]?).bind fun v2=>
 (if d.2.2.1.size+v2.size≤9223372036854775807 then self ((),(),(d.2.2.1++v2),d.2.2.2.1,e0.1,(aa .i64 (e0.2.1+(1:Int))),e0.2.2.1,e0.2.2.2)else none)else none))else none)else(bif (decide (e0.2.2.1.2.2.2.2.2.1<(d.2.2.1.size:Int)))then(if 0≤e0.2.2.1.2.2.2.2.2.1 then(if e0.2.2.1.2.2.2.2.2.1≤(d.2.2.1.size:Int)then some (d.2.2.1.extract 0 e0.2.2.1.2.2.2.2.2.1.toNat)else none)else none)else some d.2.2.1))
def Aj(k:Nat)(x0:bW)(x1:aE):Option ByteArray:=
 iter k (ju k) ((),(),(⟨#[]⟩:ByteArray),x1.2.2.2.2.2.2.2.1,(x1.2.2.2.2.2.2.2.1.length:Int),(0:Int),x1,x0)
theorem Bm(k:Nat)(x0:bW)(x1:aE):kf (k+1) (x0,x1)=Aj k x0 x1:=by kernel_rfl
def gG(k:Nat)(self:_→Option (Int×Bool))(d:(ByteArray×(Int×aj))):=
 let e0:=d.2.2.2.2
 (bif (decide (e0<d.2.2.1))then(if 0≤(aa .i64 (d.2.1+e0))then((d.1[(aa .i64 (d.2.1+e0)).toNat]?.map fun v0=>(v0.toNat:Int))).bind fun v1=>
 self (d.1,d.2.1,d.2.2.1,(aa .i64 ((aa .i64 ((256:Int)*d.2.2.2.1))+(aa .i64 v1))),(aa .i64 (e0+(1:Int))))else none)else some (d.2.2.2.1,true))
def uU(k:Nat)(x0:ByteArray)(x1:Int)(x2:Int):Option (Int×Bool):=
 (aQ k (x2,(1:Int),(6:Int))).bind fun y1=>
 (bif (!y1)then some ((0:Int),false)else(bif (decide (x1<(0:Int)))then some ((0:Int),false)else(bif (decide ((aa .i64 ((x0.size:Int)-x2))<x1))then some ((0:Int),false)else iter k (gG k) (x0,x1,x2,(0:Int),(0:Int)))))
theorem yT(k:Nat)(x0:ByteArray)(x1:Int)(x2:Int):lI (k+1) (x0,x1,x2)=uU k x0 x1 x2:=by kernel_rfl
def ff(k:Nat)(self:_→Option Bool)(d:ar):=
 (bif (decide (d.2<(d.1.size:Int)))then(if 0≤d.2 then((d.1[d.2.toNat]?.map fun v0=>(v0.toNat:Int))).bind fun v1=>
 (bif (v1==(0:Int))then some false else(if 0≤d.2 then((d.1[d.2.toNat]?.map fun v0=>(v0.toNat:Int))).bind fun v2=>
 (bif (v2==(47:Int))then some false else self (d.1,(aa .i64 (d.2+(1:Int)))))else none))else none)else some true)
def qT(k:Nat)(x0:ByteArray):Option Bool:=
 (aQ k ((x0.size:Int),(1:Int),(12:Int))).bind fun y1=>
 (bif (!y1)then some false else(bif (Cl x0 (⟨#[46]⟩:ByteArray))then some false else(bif (Cl x0 (⟨#[46,46]⟩:ByteArray))then some false else iter k (ff k) (x0,(0:Int)))))
theorem u4(k:Nat)(x0:ByteArray):jF (k+1) (x0)=qT k x0:=by kernel_rfl
def gC(k:Nat)(self:_→Option ByteArray)(d:(Int×((List Int)×Int))):=
 (bif (decide ((0:Int)≤d.2.2))then(if((256:Int):Int)≠0 then(if 0≤d.2.2 then(if d.2.2<(d.2.1.length:Int)then(d.2.1[d.2.2.toNat]?).bind fun v0=>
 (if((256:Int):Int)≠0 then self ((aa .i64 (d.1.tdiv (256:Int))),(d.2.1.set d.2.2.toNat (aa .u8 (d.1.tmod (256:Int)))),(aa .i64 (d.2.2-(1:Int))))else none)else none)else none)else none)else some (ofBytes d.2.1))
def uk(k:Nat)(x0:Int)(x1:Int):Option ByteArray:=
 (aQ k (x1,(1:Int),(6:Int))).bind fun y1=>
 (bif (!y1)then some (⟨#[]⟩:ByteArray)else(bif (decide (x0<(0:Int)))then some (⟨#[]⟩:ByteArray)else(if 0≤(aa .u64 ((8:Int)*(aa .u64 x1)))then(bif (decide ((aa .i64 ((1:Int)*2 ^(min (aa .u64 ((8:Int)*(aa .u64 x1))).toNat (IntKind.bits .i64))))≤x0))then some (⟨#[]⟩:ByteArray)else(if 0≤x1 then(if x1≤x1 then(if x1*1≤(au:Int)then iter k (gC k) (x0,(List.replicate x1.toNat (0:Int)),(aa .i64 (x1-(1:Int))))else none)else none)else none))else none)))
theorem zp(k:Nat)(x0:Int)(x1:Int):ix (k+1) (x0,x1)=uk k x0 x1:=by kernel_rfl
def vk(k:Nat)(x0:ar):Option ByteArray:=
 (ix k ((aa .i64 (x0.2+(1:Int))),(2:Int))).bind fun y1=>
 (ix k ((x0.1.size:Int),(1:Int))).bind fun y2=>
 (if y1.size+y2.size≤9223372036854775807 then(if(y1++y2).size+x0.1.size≤9223372036854775807 then(kO k (((y1++y2)++x0.1),(16:Int))).bind fun y3=>
 some y3 else none)else none)
theorem zh(k:Nat)(x0:ar):lz (k+1) (x0)=vk k x0:=by kernel_rfl
def ei(k:Nat)(self:_→Option (List ar))(d:((List ar)×ar)):=
 (bif (decide ((aa .i64 (d.2.2+(16:Int)))≤(d.2.1.size:Int)))then(lI k (d.2.1,d.2.2,(2:Int))).bind fun v0=>
 (if 0≤(aa .i64 (d.2.2+(2:Int)))then((d.2.1[(aa .i64 (d.2.2+(2:Int))).toNat]?.map fun v1=>(v1.toNat:Int))).bind fun v2=>
 (aQ k (v0.1,(1:Int),(20:Int))).bind fun v3=>
 (bif (!v3)then self (d.1,d.2.1,(aa .i64 (d.2.2+(16:Int))))else(bif (decide ((12:Int)<(aa .i64 v2)))then self (d.1,d.2.1,(aa .i64 (d.2.2+(16:Int))))else(if 0≤(aa .i64 ((aa .i64 (d.2.2+(3:Int)))+(aa .i64 v2)))then(if(aa .i64 ((aa .i64 (d.2.2+(3:Int)))+(aa .i64 v2)))≤(d.2.1.size:Int)then(if 0≤(aa .i64 (d.2.2+(3:Int)))then(if(aa .i64 (d.2.2+(3:Int)))≤(((aa .i64 ((aa .i64 (d.2.2+(3:Int)))+(aa .i64 v2))).toNat:Nat):Int)then(jF k (d.2.1.extract ((aa .i64 (d.2.2+(3:Int))).toNat) ((aa .i64 ((aa .i64 (d.2.2+(3:Int)))+(aa .i64 v2))).toNat))).bind fun v4=>
 (bif v4 then(lz k ((d.2.1.extract ((aa .i64 (d.2.2+(3:Int))).toNat) ((aa .i64 ((aa .i64 (d.2.2+(3:Int)))+(aa .i64 v2))).toNat)),(aa .i64 (v0.1-(1:Int))))).bind fun v5=>
 (if 0≤(aa .i64 (d.2.2+(16:Int)))then(if(aa .i64 (d.2.2+(16:Int)))≤(d.2.1.size:Int)then(if 0≤d.2.2 then(if d.2.2≤(((aa .i64 (d.2.2+(16:Int))).toNat:Nat):Int)then(bif (Cl v5 (d.2.1.extract d.2.2.toNat ((aa .i64 (d.2.2+(16:Int))).toNat)))then(if(d.1.length+([((d.2.1.extract ((aa .i64 (d.2.2+(3:Int))).toNat) ((aa .i64 ((aa .i64 (d.2.2+(3:Int)))+(aa .i64 v2))).toNat)),(aa .i64 (v0.1-(1:Int))))]:List ar).length)*24≤au then self ((d.1++([((d.2.1.extract ((aa .i64 (d.2.2+(3:Int))).toNat) ((aa .i64 ((aa .i64 (d.2.2+(3:Int)))+(aa .i64 v2))).toNat)),(aa .i64 (v0.1-(1:Int))))]:List ar)),d.2.1,(aa .i64 (d.2.2+(16:Int))))else none)else self (d.1,d.2.1,(aa .i64 (d.2.2+(16:Int)))))else none)else none)else none)else none)else self (d.1,d.2.1,(aa .i64 (d.2.2+(16:Int)))))else none)else none)else none)else none)))else none)else some d.1)
def sX(k:Nat)(x0:bW)(x1:Int):Option (List ar):=
 (if 0≤x1 then(x0.2.2.1[x1.toNat]?).bind fun y1=>
 (kf k (x0,y1)).bind fun y2=>
 iter k (ei k) (([]:List ar),y2,(0:Int))else none)
theorem w6(k:Nat)(x0:bW)(x1:Int):eH (k+1) (x0,x1)=sX k x0 x1:=by kernel_rfl
def Dx(k:Nat)(self:_→Option (Int×Bool))(d:(ByteArray×((List ar)×aI))):=
 (bif (decide (d.2.2.2<d.2.2.1))then(if 0≤d.2.2.2 then(if d.2.2.2<(d.2.1.length:Int)then(d.2.1[d.2.2.2.toNat]?).bind fun v0=>
 (bif (Cl v0.1 d.1)then some (v0.2,true)else self (d.1,d.2.1,d.2.2.1,(aa .i64 (d.2.2.2+(1:Int)))))else none)else none)else some ((0:Int),false))
def Bj(k:Nat)(x0:bW)(x1:Int)(x2:ByteArray):Option (Int×Bool):=
 (eH k (x0,x1)).bind fun y1=>
 iter k (Dx k) (x2,y1,(y1.length:Int),(0:Int))
theorem Cf(k:Nat)(x0:bW)(x1:Int)(x2:ByteArray):ot (k+1) (x0,x1,x2)=Bj k x0 x1 x2:=by kernel_rfl
def fi(k:Nat)(a0:_→Option (List Bool))(self:_→Option (List Bool))(d:(Unit×(Unit×((List Bool)×(Int×((List Int)×(Int×((List Int)×(Int×(Int×((List ar)×(Int×(Int×(aS×bW)))))))))))))):=
 let e0:=d.2.2.2.2
 let e1:=e0.2.2.2.2
 let e2:=e1.2.2.2.2
 (bif (decide (e1.2.2.2.1<e1.2.2.1))then(if 0≤e1.2.2.2.1 then(if e1.2.2.2.1<(e1.2.1.length:Int)then(e1.2.1[e1.2.2.2.1.toNat]?).bind fun v0=>
 (ot k (e2.2,e0.2.1,v0.1)).bind fun v1=>
 (if 0≤v1.1 then(e2.2.2.2.1[v1.1.toNat]?).bind fun v2=>
 (bif (v2.1 != (0:Int))then(if 0≤v1.1 then(if v1.1<(d.2.2.1.length:Int)then(d.2.2.1[v1.1.toNat]?).bind fun v3=>
 (bif (!v3)then(if 0≤v1.1 then(if v1.1<(d.2.2.1.length:Int)then(d.2.2.1[v1.1.toNat]?).bind fun v4=>
 (if(e0.1.length+([v1.1]:List Int).length)*8≤au then self ((),(),(d.2.2.1.set v1.1.toNat true),d.2.2.2.1,(e0.1++([v1.1]:List Int)),e0.2.1,e0.2.2.1,e0.2.2.2.1,e1.1,e1.2.1,e1.2.2.1,(aa .i64 (e1.2.2.2.1+(1:Int))),e2.1,e2.2)else none)else none)else none)else self ((),(),d.2.2.1,d.2.2.2.1,e0.1,e0.2.1,e0.2.2.1,e0.2.2.2.1,e1.1,e1.2.1,e1.2.2.1,(aa .i64 (e1.2.2.2.1+(1:Int))),e2.1,e2.2))else none)else none)else self ((),(),d.2.2.1,d.2.2.2.1,e0.1,e0.2.1,e0.2.2.1,e0.2.2.2.1,e1.1,e1.2.1,e1.2.2.1,(aa .i64 (e1.2.2.2.1+(1:Int))),e2.1,e2.2))else none)else none)else none)else a0 ((),(),d.2.2.1,d.2.2.2.1,e0.1,e0.2.2.1,e0.2.2.2.1,(aa .i64 (e1.1+(1:Int))),e2.1,e2.2))
def fl(k:Nat)(a0:_→Option (List Bool))(self:_→Option (List Bool))(d:(Unit×(Unit×((List Bool)×(Int×((List Int)×((List Int)×(Int×(Int×(aS×bW)))))))))):=
 let e0:=d.2.2.2.2
 let e1:=e0.2.2.2.2
 (bif (decide (e0.2.2.2.1<e0.2.2.1))then(if 0≤e0.2.2.2.1 then(if e0.2.2.2.1<(e0.2.1.length:Int)then(e0.2.1[e0.2.2.2.1.toNat]?).bind fun v0=>
 (if 0≤v0 then(e1.2.2.2.1[v0.toNat]?).bind fun v1=>
 (bif (v1.1 != (2:Int))then self ((),(),d.2.2.1,d.2.2.2.1,e0.1,e0.2.1,e0.2.2.1,(aa .i64 (e0.2.2.2.1+(1:Int))),e1.1,e1.2)else(eQ k (e1.2,e1.1,v0,(1:Int))).bind fun v2=>
 (bif (!v2)then self ((),(),d.2.2.1,d.2.2.2.1,e0.1,e0.2.1,e0.2.2.1,(aa .i64 (e0.2.2.2.1+(1:Int))),e1.1,e1.2)else(eH k (e1.2,v0)).bind fun v3=>
 iter k (fi k self) ((),(),d.2.2.1,d.2.2.2.1,e0.1,v0,e0.2.1,e0.2.2.1,e0.2.2.2.1,v3,(v3.length:Int),(0:Int),e1.1,e1.2)))else none)else none)else none)else a0 ((),(),d.2.2.1,e0.1,(aa .i64 (d.2.2.2.1+(1:Int))),e1.1,e1.2))
def iB(k:Nat)(self:_→Option (List Bool))(d:(Unit×(Unit×((List Bool)×((List Int)×(Int×(aS×bW))))))):=
 let e0:=d.2.2.2.2
 (bif (decide (e0.1<(8:Int)))then iter k (fl k self) ((),(),d.2.2.1,e0.1,([]:List Int),d.2.2.2.1,(d.2.2.2.1.length:Int),(0:Int),e0.2.1,e0.2.2)else some d.2.2.1)
def xN(k:Nat)(x0:bW)(x1:aS):Option (List Bool):=
 (if 0≤(20:Int)then(if(20:Int)≤(20:Int)then(if(20:Int)*1≤(au:Int)then(if 0≤(0:Int)then(if(0:Int)<(((List.replicate (20:Int).toNat false).length:Nat):Int)then((List.replicate (20:Int).toNat false)[(0:Int).toNat]?).bind fun y1=>
 iter k (iB k) ((),(),((List.replicate (20:Int).toNat false).set (0:Int).toNat true),([(0:Int)]:List Int),(0:Int),x1,x0)else none)else none)else none)else none)else none)
theorem Bh(k:Nat)(x0:bW)(x1:aS):fT (k+1) (x0,x1)=xN k x0 x1:=by kernel_rfl
def fE(k:Nat)(self:_→Option (List Int))(d:((List Int)×((List Bool)×aI))):=
 (bif (decide (d.2.2.2<d.2.2.1))then(if 0≤d.2.2.2 then(if d.2.2.2<(d.2.1.length:Int)then(d.2.1[d.2.2.2.toNat]?).bind fun v0=>
 (bif v0 then(if(d.1.length+([d.2.2.2]:List Int).length)*8≤au then self ((d.1++([d.2.2.2]:List Int)),d.2.1,d.2.2.1,(aa .i64 (d.2.2.2+(1:Int))))else none)else self (d.1,d.2.1,d.2.2.1,(aa .i64 (d.2.2.2+(1:Int)))))else none)else none)else some d.1)
def tI(k:Nat)(x0:bW)(x1:aS):Option (List Int):=
 (fT k (x0,x1)).bind fun y1=>
 iter k (fE k) (([]:List Int),y1,(y1.length:Int),(0:Int))
theorem wV(k:Nat)(x0:bW)(x1:aS):kv (k+1) (x0,x1)=tI k x0 x1:=by kernel_rfl
def eF(k:Nat)(self:_→Option ByteArray)(d:(Int×ByteArray)):=
 (bif (decide ((9:Int)<d.1))then(if((10:Int):Int)≠0 then(if(ofBytes ([(aa .u8 (aa .i64 ((48:Int)+(d.1.tmod (10:Int)))))]:List Int)).size+d.2.size≤9223372036854775807 then(if((10:Int):Int)≠0 then self ((aa .i64 (d.1.tdiv (10:Int))),((ofBytes ([(aa .u8 (aa .i64 ((48:Int)+(d.1.tmod (10:Int)))))]:List Int))++d.2))else none)else none)else none)else(if(ofBytes ([(aa .u8 (aa .i64 ((48:Int)+d.1)))]:List Int)).size+d.2.size≤9223372036854775807 then some ((ofBytes ([(aa .u8 (aa .i64 ((48:Int)+d.1)))]:List Int))++d.2)else none))
def hY(k:Nat)(x0:Int):Option ByteArray:=
 (bif (decide (x0<(0:Int)))then(if((10:Int):Int)≠0 then(bif ((aa .i64 (x0.tdiv (10:Int)))==(0:Int))then(if(⟨#[45]⟩:ByteArray).size+(ofBytes ([(aa .u8 (aa .i64 ((48:Int)-x0)))]:List Int)).size≤9223372036854775807 then some ((⟨#[45]⟩:ByteArray)++(ofBytes ([(aa .u8 (aa .i64 ((48:Int)-x0)))]:List Int)))else none)else(if((10:Int):Int)≠0 then(aZ k (aa .i64 (x0.tdiv (10:Int)))).bind fun y1=>
 (if((10:Int):Int)≠0 then(if y1.size+(ofBytes ([(aa .u8 (aa .i64 ((48:Int)-(x0.tmod (10:Int)))))]:List Int)).size≤9223372036854775807 then some (y1++(ofBytes ([(aa .u8 (aa .i64 ((48:Int)-(x0.tmod (10:Int)))))]:List Int)))else none)else none)else none))else none)else iter k (eF k) (x0,(⟨#[]⟩:ByteArray)))
theorem jG(k:Nat)(x0:Int):aZ (k+1) (x0)=hY k x0:=by kernel_rfl
def nA(k:Nat)(self:_→Option ByteArray)(d:(ByteArray×(ByteArray×((List ByteArray)×aI)))):=
 let e0:=d.2.2.2.2
 (bif (decide (e0<d.2.2.2.1))then(if 0≤e0 then(d.2.2.1[e0.toNat]?).bind fun v0=>
 (bif (decide ((0:Int)<e0))then(if d.2.1.size+d.1.size≤9223372036854775807 then(if(d.2.1++d.1).size+v0.size≤9223372036854775807 then self (d.1,((d.2.1++d.1)++v0),d.2.2.1,d.2.2.2.1,(aa .i64 (e0+(1:Int))))else none)else none)else(if d.2.1.size+v0.size≤9223372036854775807 then self (d.1,(d.2.1++v0),d.2.2.1,d.2.2.2.1,(aa .i64 (e0+(1:Int))))else none))else none)else some d.2.1)
def HP(k:Nat)(x0:(List ByteArray))(x1:ByteArray):Option ByteArray:=
 iter k (nA k) (x1,(⟨#[]⟩:ByteArray),x0,(x0.length:Int),(0:Int))
theorem GK(k:Nat)(x0:(List ByteArray))(x1:ByteArray):mg (k+1) (x0,x1)=HP k x0 x1:=by kernel_rfl
def JA(k:Nat)(x0:Bool)(x1:ByteArray):Option ByteArray:=
 (bif x0 then some x1 else some (⟨#[45]⟩:ByteArray))
theorem DM(k:Nat)(x0:Bool)(x1:ByteArray):eX (k+1) (x0,x1)=JA k x0 x1:=by kernel_rfl
def fL(k:Nat)(self:_→Option ByteArray)(d:(Int×ar)):=
 (bif (decide (d.2.2<(3:Int)))then(eR k (d.1,d.2.2)).bind fun v0=>
 (eX k (((intBits .and .i64 v0 (4:Int)) != (0:Int)),(⟨#[114]⟩:ByteArray))).bind fun v1=>
 (if d.2.1.size+v1.size≤9223372036854775807 then(eX k (((intBits .and .i64 v0 (2:Int)) != (0:Int)),(⟨#[119]⟩:ByteArray))).bind fun v2=>
 (if(d.2.1++v1).size+v2.size≤9223372036854775807 then(eX k (((intBits .and .i64 v0 (1:Int)) != (0:Int)),(⟨#[120]⟩:ByteArray))).bind fun v3=>
 (if((d.2.1++v1)++v2).size+v3.size≤9223372036854775807 then self (d.1,(((d.2.1++v1)++v2)++v3),(aa .i64 (d.2.2+(1:Int))))else none)else none)else none)else some d.2.1)
def tS(k:Nat)(x0:Int):Option ByteArray:=
 (de k x0).bind fun y1=>
 (bif (!y1)then some (⟨#[]⟩:ByteArray)else(eX k (((intBits .and .i64 x0 (1024:Int)) != (0:Int)),(⟨#[115]⟩:ByteArray))).bind fun y2=>
 (eX k (((intBits .and .i64 x0 (512:Int)) != (0:Int)),(⟨#[116]⟩:ByteArray))).bind fun y3=>
 (if y2.size+y3.size≤9223372036854775807 then iter k (fL k) (x0,(y2++y3),(0:Int))else none))
theorem wL(k:Nat)(x0:Int):kP (k+1) (x0)=tS k x0:=by kernel_rfl
def gQ(k:Nat)(self:_→Option ByteArray)(d:((List ByteArray)×((List aj)×aI))):=
 (bif (decide (d.2.2.2<d.2.2.1))then(if 0≤d.2.2.2 then(d.2.1[d.2.2.2.toNat]?).bind fun v0=>
 (if 0≤(aa .i64 (v0.1+(1:Int)))then(if(aa .i64 (v0.1+(1:Int)))≤(((⟨#[63,117,103,109]⟩:ByteArray).size:Nat):Int)then(if 0≤v0.1 then(if v0.1≤(((aa .i64 (v0.1+(1:Int))).toNat:Nat):Int)then(aZ k v0.2.1).bind fun v1=>
 (if((⟨#[63,117,103,109]⟩:ByteArray).extract v0.1.toNat ((aa .i64 (v0.1+(1:Int))).toNat)).size+v1.size≤9223372036854775807 then(if(((⟨#[63,117,103,109]⟩:ByteArray).extract v0.1.toNat ((aa .i64 (v0.1+(1:Int))).toNat))++v1).size+(⟨#[58]⟩:ByteArray).size≤9223372036854775807 then(aZ k v0.2.2).bind fun v2=>
 (if((((⟨#[63,117,103,109]⟩:ByteArray).extract v0.1.toNat ((aa .i64 (v0.1+(1:Int))).toNat))++v1)++(⟨#[58]⟩:ByteArray)).size+v2.size≤9223372036854775807 then(if(d.1.length+([(((((⟨#[63,117,103,109]⟩:ByteArray).extract v0.1.toNat ((aa .i64 (v0.1+(1:Int))).toNat))++v1)++(⟨#[58]⟩:ByteArray))++v2)]:List ByteArray).length)*16≤au then self ((d.1++([(((((⟨#[63,117,103,109]⟩:ByteArray).extract v0.1.toNat ((aa .i64 (v0.1+(1:Int))).toNat))++v1)++(⟨#[58]⟩:ByteArray))++v2)]:List ByteArray)),d.2.1,d.2.2.1,(aa .i64 (d.2.2.2+(1:Int))))else none)else none)else none)else none)else none)else none)else none)else none)else none)else(bif ((d.1.length:Int)==(0:Int))then some (⟨#[45]⟩:ByteArray)else(mg k (d.1,(⟨#[44]⟩:ByteArray))).bind fun v3=>
 some v3))
def uQ(k:Nat)(x0:(List aj)):Option ByteArray:=
 (iE k x0).bind fun y1=>
 (bif (!y1)then some (⟨#[]⟩:ByteArray)else iter k (gQ k) (([]:List ByteArray),x0,(x0.length:Int),(0:Int)))
theorem yr(k:Nat)(x0:(List aj)):iI (k+1) (x0)=uQ k x0:=by kernel_rfl
def A7(k:Nat)(x0:aE):Option ByteArray:=
 (o4 (R:=ByteArray) ((bif (x0.1==(2:Int))then some (.inl ((),([(⟨#[100,105,114]⟩:ByteArray)]:List ByteArray),x0))else some (.inl ((),([(⟨#[102,105,108,101]⟩:ByteArray)]:List ByteArray),x0)))) fun(d1:(Unit×((List ByteArray)×aE)))=>let e0:=d1.2.2.2.2;(kP k d1.2.2.2.1).bind fun y2=>
 (aZ k e0.1).bind fun y3=>
 (aZ k e0.2.1).bind fun y4=>
 (aZ k e0.2.2.1).bind fun y5=>
 (aZ k e0.2.2.2.1).bind fun y6=>
 (aZ k e0.2.2.2.2.1).bind fun y7=>
 (iI k e0.2.2.2.2.2.2.1).bind fun y8=>
 (iI k e0.2.2.2.2.2.2.2).bind fun y9=>
 (if(d1.2.1.length+([y2,y3,y4,y5,y6,y7,y8,y9]:List ByteArray).length)*16≤au then(mg k ((d1.2.1++([y2,y3,y4,y5,y6,y7,y8,y9]:List ByteArray)),(⟨#[32]⟩:ByteArray))).bind fun y10=>
 some y10 else none))
theorem BC(k:Nat)(x0:aE):ow (k+1) (x0)=A7 k x0:=by kernel_rfl
def iC(k:Nat)(a0:_→Option (List ByteArray))(self:_→Option (List ByteArray))(d:((List ByteArray)×(Unit×(Int×((List ar)×(Int×(Int×ar))))))):=
 let e0:=d.2.2.2.2
 (bif (decide ((0:Int)<d.2.2.1))then(if 0≤(aa .i64 (d.2.2.1-(1:Int)))then(if(aa .i64 (d.2.2.1-(1:Int)))<(d.1.length:Int)then(d.1[(aa .i64 (d.2.2.1-(1:Int))).toNat]?).bind fun v0=>
 (bif (!((Re v0 e0.2.2.1)||(Cl v0 e0.2.2.1)))then self (d.1,(),(aa .i64 (d.2.2.1-(1:Int))),d.2.2.2.1,e0.1,e0.2.1,e0.2.2)else(if 0≤d.2.2.1 then(if d.2.2.1≤(d.1.length:Int)then(if(([]:List ByteArray).length+((d.1.drop 0).take (d.2.2.1.toNat-0)).length)*16≤au then(if((([]:List ByteArray)++((d.1.drop 0).take (d.2.2.1.toNat-0))).length+([e0.2.2.1]:List ByteArray).length)*16≤au then(if 0≤d.2.2.1 then(if d.2.2.1≤(d.1.length:Int)then(if(((([]:List ByteArray)++((d.1.drop 0).take (d.2.2.1.toNat-0)))++([e0.2.2.1]:List ByteArray)).length+((d.1.drop d.2.2.1.toNat).take (d.1.length-d.2.2.1.toNat)).length)*16≤au then a0 ((((([]:List ByteArray)++((d.1.drop 0).take (d.2.2.1.toNat-0)))++([e0.2.2.1]:List ByteArray))++((d.1.drop d.2.2.1.toNat).take (d.1.length-d.2.2.1.toNat))),d.2.2.2.1,e0.1,(aa .i64 (e0.2.1+(1:Int))))else none)else none)else none)else none)else none)else none)else none))else none)else none)else(if 0≤d.2.2.1 then(if d.2.2.1≤(d.1.length:Int)then(if(([]:List ByteArray).length+((d.1.drop 0).take (d.2.2.1.toNat-0)).length)*16≤au then(if((([]:List ByteArray)++((d.1.drop 0).take (d.2.2.1.toNat-0))).length+([e0.2.2.1]:List ByteArray).length)*16≤au then(if 0≤d.2.2.1 then(if d.2.2.1≤(d.1.length:Int)then(if(((([]:List ByteArray)++((d.1.drop 0).take (d.2.2.1.toNat-0)))++([e0.2.2.1]:List ByteArray)).length+((d.1.drop d.2.2.1.toNat).take (d.1.length-d.2.2.1.toNat)).length)*16≤au then a0 ((((([]:List ByteArray)++((d.1.drop 0).take (d.2.2.1.toNat-0)))++([e0.2.2.1]:List ByteArray))++((d.1.drop d.2.2.1.toNat).take (d.1.length-d.2.2.1.toNat))),d.2.2.2.1,e0.1,(aa .i64 (e0.2.1+(1:Int))))else none)else none)else none)else none)else none)else none)else none))
def iy(k:Nat)(self:_→Option (List ByteArray))(d:((List ByteArray)×((List ar)×aI))):=
 (bif (decide (d.2.2.2<d.2.2.1))then(if 0≤d.2.2.2 then(d.2.1[d.2.2.2.toNat]?).bind fun v0=>
 iter k (iC k self) (d.1,(),(d.1.length:Int),d.2.1,d.2.2.1,d.2.2.2,v0)else none)else some d.1)
def yj(k:Nat)(x0:(List ar)):Option (List ByteArray):=
 iter k (iy k) (([]:List ByteArray),x0,(x0.length:Int),(0:Int))
theorem zP(k:Nat)(x0:(List ar)):nc (k+1) (x0)=yj k x0:=by kernel_rfl
def lU(k:Nat)(self:_→Option ByteArray)(d:(ByteArray×((List Int)×Int))):=
 (bif (decide (d.2.2<(d.1.size:Int)))then(if 0≤d.2.2 then((d.1[d.2.2.toNat]?.map fun v0=>(v0.toNat:Int))).bind fun v1=>
 (if((16:Int):Int)≠0 then(if 0≤(aa .u8 (v1.tdiv (16:Int)))then(((⟨#[48,49,50,51,52,53,54,55,56,57,97,98,99,100,101,102]⟩:ByteArray)[(aa .u8 (v1.tdiv (16:Int))).toNat]?.map fun v0=>(v0.toNat:Int))).bind fun v2=>
 (if 0≤d.2.2 then((d.1[d.2.2.toNat]?.map fun v0=>(v0.toNat:Int))).bind fun v3=>
 (if((16:Int):Int)≠0 then(if 0≤(v3.tmod (16:Int))then(((⟨#[48,49,50,51,52,53,54,55,56,57,97,98,99,100,101,102]⟩:ByteArray)[(v3.tmod (16:Int)).toNat]?.map fun v0=>(v0.toNat:Int))).bind fun v4=>
 (if(d.2.1.length+([v2,v4]:List Int).length)*1≤au then self (d.1,(d.2.1++([v2,v4]:List Int)),(aa .i64 (d.2.2+(1:Int))))else none)else none)else none)else none)else none)else none)else none)else some (ofBytes d.2.1))
def FV(k:Nat)(x0:ByteArray):Option ByteArray:=
 iter k (lU k) (x0,([]:List Int),(0:Int))
theorem EC(k:Nat)(x0:ByteArray):so (k+1) (x0)=FV k x0:=by kernel_rfl
def gN(k:Nat)(self:_→Option Int)(d:(Int×(Unit×(Int×(Int×bW))))):=
 (bif (decide (d.2.2.2.1<(5:Int)))then(if 0≤(aa .i64 ((aa .i64 (d.1*(5:Int)))+d.2.2.2.1))then(d.2.2.2.2.2.2.1[(aa .i64 ((aa .i64 (d.1*(5:Int)))+d.2.2.2.1)).toNat]?).bind fun v0=>
 (bif (v0.1 != (0:Int))then self (d.1,(),(aa .i64 (d.2.2.1+(1:Int))),(aa .i64 (d.2.2.2.1+(1:Int))),d.2.2.2.2)else self (d.1,(),d.2.2.1,(aa .i64 (d.2.2.2.1+(1:Int))),d.2.2.2.2))else none)else some d.2.2.1)
def uo(k:Nat)(x0:bW)(x1:Int):Option Int:=
 iter k (gN k) (x1,(),(0:Int),(0:Int),x0)
theorem yV(k:Nat)(x0:bW)(x1:Int):lx (k+1) (x0,x1)=uo k x0 x1:=by kernel_rfl
def gP(k:Nat)(a0:_→Option Int)(self:_→Option Int)(d:(Int×(Int×((List aE)×(Int×(Int×((List Int)×aI))))))):=
 let e0:=d.2.2.2.2
 (bif (decide (e0.2.2.2<e0.2.2.1))then(if 0≤e0.2.2.2 then(e0.2.1[e0.2.2.2.toNat]?).bind fun v0=>
 (bif (v0 != (-1:Int))then(gE k v0).bind fun v1=>
 (bif (v1==d.1)then self (d.1,(aa .i64 (d.2.1+(1:Int))),d.2.2.1,d.2.2.2.1,e0.1,e0.2.1,e0.2.2.1,(aa .i64 (e0.2.2.2+(1:Int))))else self (d.1,d.2.1,d.2.2.1,d.2.2.2.1,e0.1,e0.2.1,e0.2.2.1,(aa .i64 (e0.2.2.2+(1:Int)))))else self (d.1,d.2.1,d.2.2.1,d.2.2.2.1,e0.1,e0.2.1,e0.2.2.1,(aa .i64 (e0.2.2.2+(1:Int)))))else none)else a0 (d.1,d.2.1,d.2.2.1,d.2.2.2.1,(aa .i64 (e0.1+(1:Int)))))
def gJ(k:Nat)(self:_→Option Int)(d:(Int×(Int×((List aE)×aI)))):=
 let e0:=d.2.2.2.2
 (bif (decide (e0<d.2.2.2.1))then(if 0≤e0 then(d.2.2.1[e0.toNat]?).bind fun v0=>
 iter k (gP k self) (d.1,d.2.1,d.2.2.1,d.2.2.2.1,e0,v0.2.2.2.2.2.2.2.1,(v0.2.2.2.2.2.2.2.1.length:Int),(0:Int))else none)else some d.2.1)
def uN(k:Nat)(x0:bW)(x1:Int):Option Int:=
 iter k (gJ k) (x1,(0:Int),x0.2.2.1,(x0.2.2.1.length:Int),(0:Int))
theorem yP(k:Nat)(x0:bW)(x1:Int):lN (k+1) (x0,x1)=uN k x0 x1:=by kernel_rfl
def kA(k:Nat)(x0:bW)(x1:Int):Option ByteArray:=
 (jY k x0).bind fun y1=>
 (bif (!y1)then some (⟨#[]⟩:ByteArray)else(bD k x1).bind fun y2=>
 (bif (!y2)then some (⟨#[]⟩:ByteArray)else(if 0≤x1 then(x0.2.1[x1.toNat]?).bind fun y3=>
 (lx k (x0,x1)).bind fun y4=>
 (aZ k y4).bind fun y5=>
 (if y5.size+(⟨#[47]⟩:ByteArray).size≤9223372036854775807 then(aZ k y3.1).bind fun y6=>
 (if(y5++(⟨#[47]⟩:ByteArray)).size+y6.size≤9223372036854775807 then(if((y5++(⟨#[47]⟩:ByteArray))++y6).size+(⟨#[32]⟩:ByteArray).size≤9223372036854775807 then(lN k (x0,x1)).bind fun y7=>
 (aZ k y7).bind fun y8=>
 (if(((y5++(⟨#[47]⟩:ByteArray))++y6)++(⟨#[32]⟩:ByteArray)).size+y8.size≤9223372036854775807 then(if((((y5++(⟨#[47]⟩:ByteArray))++y6)++(⟨#[32]⟩:ByteArray))++y8).size+(⟨#[47]⟩:ByteArray).size≤9223372036854775807 then(aZ k y3.2).bind fun y9=>
 (if(((((y5++(⟨#[47]⟩:ByteArray))++y6)++(⟨#[32]⟩:ByteArray))++y8)++(⟨#[47]⟩:ByteArray)).size+y9.size≤9223372036854775807 then some ((((((y5++(⟨#[47]⟩:ByteArray))++y6)++(⟨#[32]⟩:ByteArray))++y8)++(⟨#[47]⟩:ByteArray))++y9)else none)else none)else none)else none)else none)else none)else none)))
theorem jJ(k:Nat)(x0:bW)(x1:Int):ik (k+1) (x0,x1)=kA k x0 x1:=by kernel_rfl
def gV(k:Nat)(self:_→Option (List ByteArray))(d:(Unit×(Unit×((List ByteArray)×((List Int)×(Int×(Int×(aS×bW)))))))):=
 let e0:=d.2.2.2.2
 (bif (decide (e0.2.1<e0.1))then(if 0≤e0.2.1 then(if e0.2.1<(d.2.2.2.1.length:Int)then(d.2.2.2.1[e0.2.1.toNat]?).bind fun v0=>
 (if 0≤v0 then(e0.2.2.2.2.2.1[v0.toNat]?).bind fun v1=>
 (aZ k v0).bind fun v2=>
 (if v2.size+(⟨#[32]⟩:ByteArray).size≤9223372036854775807 then(ow k v1).bind fun v3=>
 (if(v2++(⟨#[32]⟩:ByteArray)).size+v3.size≤9223372036854775807 then(eQ k (e0.2.2.2,e0.2.2.1,v0,(4:Int))).bind fun v4=>
 (bif v4 then(bif (v1.1==(2:Int))then(if((v2++(⟨#[32]⟩:ByteArray))++v3).size+(⟨#[32]⟩:ByteArray).size≤9223372036854775807 then(eH k (e0.2.2.2,v0)).bind fun v5=>
 (nc k v5).bind fun v6=>
 (mg k (v6,(⟨#[44]⟩:ByteArray))).bind fun v7=>
 (if(((v2++(⟨#[32]⟩:ByteArray))++v3)++(⟨#[32]⟩:ByteArray)).size+v7.size≤9223372036854775807 then(if(d.2.2.1.length+([((((v2++(⟨#[32]⟩:ByteArray))++v3)++(⟨#[32]⟩:ByteArray))++v7)]:List ByteArray).length)*16≤au then self ((),(),(d.2.2.1++([((((v2++(⟨#[32]⟩:ByteArray))++v3)++(⟨#[32]⟩:ByteArray))++v7)]:List ByteArray)),d.2.2.2.1,e0.1,(aa .i64 (e0.2.1+(1:Int))),e0.2.2.1,e0.2.2.2)else none)else none)else none)else(if((v2++(⟨#[32]⟩:ByteArray))++v3).size+(⟨#[32]⟩:ByteArray).size≤9223372036854775807 then(kf k (e0.2.2.2,v1)).bind fun v8=>
 (so k v8).bind fun v9=>
 (if(((v2++(⟨#[32]⟩:ByteArray))++v3)++(⟨#[32]⟩:ByteArray)).size+v9.size≤9223372036854775807 then(if(d.2.2.1.length+([((((v2++(⟨#[32]⟩:ByteArray))++v3)++(⟨#[32]⟩:ByteArray))++v9)]:List ByteArray).length)*16≤au then self ((),(),(d.2.2.1++([((((v2++(⟨#[32]⟩:ByteArray))++v3)++(⟨#[32]⟩:ByteArray))++v9)]:List ByteArray)),d.2.2.2.1,e0.1,(aa .i64 (e0.2.1+(1:Int))),e0.2.2.1,e0.2.2.2)else none)else none)else none))else(if(d.2.2.1.length+([((v2++(⟨#[32]⟩:ByteArray))++v3)]:List ByteArray).length)*16≤au then self ((),(),(d.2.2.1++([((v2++(⟨#[32]⟩:ByteArray))++v3)]:List ByteArray)),d.2.2.2.1,e0.1,(aa .i64 (e0.2.1+(1:Int))),e0.2.2.1,e0.2.2.2)else none))else none)else none)else none)else none)else none)else(ik k (e0.2.2.2,e0.2.2.1.1)).bind fun v10=>
 (if(⟨#[117,115,97,103,101,32]⟩:ByteArray).size+v10.size≤9223372036854775807 then(if(d.2.2.1.length+([((⟨#[117,115,97,103,101,32]⟩:ByteArray)++v10)]:List ByteArray).length)*16≤au then some (d.2.2.1++([((⟨#[117,115,97,103,101,32]⟩:ByteArray)++v10)]:List ByteArray))else none)else none))
def vD(k:Nat)(x0:bW)(x1:aS):Option (List ByteArray):=
 (jY k x0).bind fun y1=>
 (bif (!y1)then some ([]:List ByteArray)else(je k x1).bind fun y2=>
 (bif (!y2)then some ([]:List ByteArray)else(kv k (x0,x1)).bind fun y3=>
 iter k (gV k) ((),(),([]:List ByteArray),y3,(y3.length:Int),(0:Int),x1,x0)))
theorem tO(k:Nat)(x0:bW)(x1:aS):lX (k+1) (x0,x1)=vD k x0 x1:=by kernel_rfl
def iR(k:Nat)(self:_→Option Bool)(d:((List ByteArray)×((List ByteArray)×aI))):=
 (bif (decide (d.2.2.2<d.2.2.1))then(if 0≤d.2.2.2 then(d.2.1[d.2.2.2.toNat]?).bind fun v0=>
 (if 0≤d.2.2.2 then(d.1[d.2.2.2.toNat]?).bind fun v1=>
 (bif (!(Cl v0 v1))then some false else self (d.1,d.2.1,d.2.2.1,(aa .i64 (d.2.2.2+(1:Int)))))else none)else none)else some true)
def xI(k:Nat)(x0:(List ByteArray))(x1:(List ByteArray)):Option Bool:=
 (bif ((x0.length:Int) != (x1.length:Int))then some false else iter k (iR k) (x1,x0,(x0.length:Int),(0:Int)))
theorem A4(k:Nat)(x0:(List ByteArray))(x1:(List ByteArray)):mX (k+1) (x0,x1)=xI k x0 x1:=by kernel_rfl
def yc(k:Nat)(x0:bW)(x1:bW)(x2:aS):Option Bool:=
 (jY k x0).bind fun y1=>
 (bif y1 then(jY k x1).bind fun y2=>
 (bif y2 then(je k x2).bind fun y3=>
 (bif y3 then(lX k (x0,x2)).bind fun y4=>
 (lX k (x1,x2)).bind fun y5=>
 (mX k (y4,y5)).bind fun y6=>
 some y6 else some false)else some false)else some false)
theorem zE(k:Nat)(x0:bW)(x1:bW)(x2:aS):mQ (k+1) (x0,x1,x2)=yc k x0 x1 x2:=by kernel_rfl
def C2(k:Nat)(x0:Int):Option Bool:=
 (bif (decide ((0:Int)≤x0))then some (decide (x0<(4:Int)))else some false)
theorem DR(k:Nat)(x0:Int):bT (k+1) (x0)=C2 k x0:=by kernel_rfl
def dm(k:Nat)(self:_→Option Bool)(d:((List Int)×((List Int)×aI))):=
 (bif (decide (d.2.2.2<d.2.2.1))then(if 0≤d.2.2.2 then(d.1[d.2.2.2.toNat]?).bind fun v0=>
 (if 0≤d.2.2.2 then(d.2.1[d.2.2.2.toNat]?).bind fun v1=>
 (bif (v0 != v1)then some false else self (d.1,d.2.1,d.2.2.1,(aa .i64 (d.2.2.2+(1:Int)))))else none)else none)else some true)
def ml(k:Nat)(x0:(List Int))(x1:(List Int)):Option Bool:=
 (bif ((x0.length:Int) != (x1.length:Int))then some false else iter k (dm k) (x0,x1,(x0.length:Int),(0:Int)))
theorem pP(k:Nat)(x0:(List Int))(x1:(List Int)):fH (k+1) (x0,x1)=ml k x0 x1:=by kernel_rfl
def br(k:Nat)(self:_→Option Bool)(d:((List aj)×((List aj)×aI))):=
 (bif (decide (d.2.2.2<d.2.2.1))then(if 0≤d.2.2.2 then(d.1[d.2.2.2.toNat]?).bind fun v0=>
 (if 0≤d.2.2.2 then(d.2.1[d.2.2.2.toNat]?).bind fun v1=>
 (bif (!((v0.1==v1.1)&&((v0.2.1==v1.2.1)&&(v0.2.2==v1.2.2))))then some false else self (d.1,d.2.1,d.2.2.1,(aa .i64 (d.2.2.2+(1:Int)))))else none)else none)else some true)
def cY(k:Nat)(x0:(List aj))(x1:(List aj)):Option Bool:=
 (bif ((x0.length:Int) != (x1.length:Int))then some false else iter k (br k) (x0,x1,(x0.length:Int),(0:Int)))
theorem fq(k:Nat)(x0:(List aj))(x1:(List aj)):bw (k+1) (x0,x1)=cY k x0 x1:=by kernel_rfl
def uY(k:Nat)(x0:aE)(x1:aE):Option Bool:=
 (bif (x0.1==x1.1)then(bif (x0.2.1==x1.2.1)then(bif (x0.2.2.1==x1.2.2.1)then(bif (x0.2.2.2.1==x1.2.2.2.1)then(bif (x0.2.2.2.2.1==x1.2.2.2.2.1)then(bif (x0.2.2.2.2.2.1==x1.2.2.2.2.2.1)then(bif (x0.2.2.2.2.2.2.1==x1.2.2.2.2.2.2.1)then(fH k (x0.2.2.2.2.2.2.2.1,x1.2.2.2.2.2.2.2.1)).bind fun y1=>
 (bif y1 then(bw k (x0.2.2.2.2.2.2.2.2.1,x1.2.2.2.2.2.2.2.2.1)).bind fun y2=>
 (bif y2 then(bw k (x0.2.2.2.2.2.2.2.2.2,x1.2.2.2.2.2.2.2.2.2)).bind fun y3=>
 some y3 else some false)else some false)else some false)else some false)else some false)else some false)else some false)else some false)else some false)
theorem zq(k:Nat)(x0:aE)(x1:aE):lq (k+1) (x0,x1)=uY k x0 x1:=by kernel_rfl
def CY(k:Nat)(x0:Int):Option Bool:=
 (bif (decide ((0:Int)≤x0))then some (decide (x0≤(2047:Int)))else some false)
theorem Dr(k:Nat)(x0:Int):jj (k+1) (x0)=CY k x0:=by kernel_rfl
def pc(k:Nat)(x0:Int):Option Int:=
 (bif (decide (x0≤(0:Int)))then some (0:Int)else(if((32:Int):Int)≠0 then some (aa .i64 ((aa .i64 ((aa .i64 (x0-(1:Int))).tdiv (32:Int)))+(1:Int)))else none))
theorem tZ(k:Nat)(x0:Int):iU (k+1) (x0)=pc k x0:=by kernel_rfl
def gj(k:Nat)(self:_→Option Int)(d:(Int×((List Int)×aI))):=
 (bif (decide (d.2.2.2<d.2.2.1))then(if 0≤d.2.2.2 then(d.2.1[d.2.2.2.toNat]?).bind fun v0=>
 (bif (v0 != d.1)then some v0 else self (d.1,d.2.1,d.2.2.1,(aa .i64 (d.2.2.2+(1:Int)))))else none)else some d.1)
def F3(k:Nat)(x0:(List Int)):Option Int:=
 iter k (gj k) ((0:Int),x0,(x0.length:Int),(0:Int))
theorem EU(k:Nat)(x0:(List Int)):sw (k+1) (x0)=F3 k x0:=by kernel_rfl
def cmp_isNaN_int(k:Nat)(x0:Int):Option Bool:=
 some (x0 != x0)
theorem z8(k:Nat)(x0:Int):jr (k+1) (x0)=cmp_isNaN_int k x0:=by kernel_rfl
def cmp_Compare_int(k:Nat)(x0:Int)(x1:Int):Option Int:=
 (jr k x0).bind fun y1=>
 (jr k x1).bind fun y2=>
 (bif y1 then(bif y2 then some (0:Int)else some (-1:Int))else(bif y2 then some (1:Int)else(bif (decide (x0<x1))then some (-1:Int)else(bif (decide (x1<x0))then some (1:Int)else some (0:Int)))))
theorem wM(k:Nat)(x0:Int)(x1:Int):gB (k+1) (x0,x1)=cmp_Compare_int k x0 x1:=by kernel_rfl
def l8(k:Nat)(self:_→Option Bool)(d:((List aj)×((List aj)×aI))):=
 (bif (decide (d.2.2.2<d.2.2.1))then(if 0≤d.2.2.2 then(d.2.1[d.2.2.2.toNat]?).bind fun v0=>
 (bif (decide (v0.2.2<(0:Int)))then some false else(bif (decide ((7:Int)<v0.2.2))then some false else(o4 (R:=Bool) ((bif (v0.1==(1:Int))then(bif (v0.1==(1:Int))then(bT k v0.2.1).bind fun v1=>
 (bif (!v1)then((some false).map .inr)else some (.inl (d.1,d.2.2.2,(),d.2.1,d.2.2.1,d.2.2.2,v0)))else(bif (v0.1==(3:Int))then(bif (v0.2.1 != (0:Int))then((some false).map .inr)else some (.inl (d.1,d.2.2.2,(),d.2.1,d.2.2.1,d.2.2.2,v0)))else((some false).map .inr)))else(bif (v0.1==(2:Int))then(bT k v0.2.1).bind fun v2=>
 (bif (!v2)then((some false).map .inr)else some (.inl (d.1,d.2.2.2,(),d.2.1,d.2.2.1,d.2.2.2,v0)))else(bif (v0.1==(3:Int))then(bif (v0.2.1 != (0:Int))then((some false).map .inr)else some (.inl (d.1,d.2.2.2,(),d.2.1,d.2.2.1,d.2.2.2,v0)))else((some false).map .inr))))) fun(v3:((List aj)×(Int×(Unit×((List aj)×(Int×(Int×aj)))))))=>let e0:=v3.2.2.2.2;(bif (decide ((0:Int)<v3.2.1))then(if 0≤(aa .i64 (v3.2.1-(1:Int)))then(v3.1[(aa .i64 (v3.2.1-(1:Int))).toNat]?).bind fun v4=>
 (gB k (v4.1,e0.2.2.1)).bind fun v5=>
 (if 0≤(aa .i64 (v3.2.1-(1:Int)))then(v3.1[(aa .i64 (v3.2.1-(1:Int))).toNat]?).bind fun v6=>
 (gB k (v6.2.1,e0.2.2.2.1)).bind fun v7=>
 (sw k ([v5,v7]:List Int)).bind fun v8=>
 (bif (decide ((0:Int)≤v8))then some false else self (v3.1,v3.2.2.2.1,e0.1,(aa .i64 (e0.2.1+(1:Int)))))else none)else none)else self (v3.1,v3.2.2.2.1,e0.1,(aa .i64 (e0.2.1+(1:Int))))))))else none)else(bif ((d.1.length:Int)==(0:Int))then some true else(if 0≤(aa .i64 ((d.1.length:Int)-(1:Int)))then(d.1[(aa .i64 ((d.1.length:Int)-(1:Int))).toNat]?).bind fun v9=>
 some (v9.1==(3:Int))else none)))
def FQ(k:Nat)(x0:(List aj)):Option Bool:=
 (bif (decide ((6:Int)<(x0.length:Int)))then some false else iter k (l8 k) (x0,x0,(x0.length:Int),(0:Int)))
theorem F0(k:Nat)(x0:(List aj)):ir (k+1) (x0)=FQ k x0:=by kernel_rfl
def dk(k:Nat)(self:_→Option Int)(d:((List Int)×aj)):=
 (bif (decide (d.2.2.2<d.2.2.1))then(if 0≤d.2.2.2 then(d.1[d.2.2.2.toNat]?).bind fun v0=>
 (bif (d.2.1==v0)then some d.2.2.2 else self (d.1,d.2.1,d.2.2.1,(aa .i64 (d.2.2.2+(1:Int)))))else none)else some (-1:Int))
def mq(k:Nat)(x0:(List Int))(x1:Int):Option Int:=
 iter k (dk k) (x0,x1,(x0.length:Int),(0:Int))
theorem pK(k:Nat)(x0:(List Int))(x1:Int):fM (k+1) (x0,x1)=mq k x0 x1:=by kernel_rfl
def jX(k:Nat)(x0:(List Int))(x1:Int):Option Bool:=
 (fM k (x0,x1)).bind fun y1=>
 some (decide ((0:Int)≤y1))
theorem nB(k:Nat)(x0:(List Int))(x1:Int):cW (k+1) (x0,x1)=jX k x0 x1:=by kernel_rfl
def jw(k:Nat)(self:_→Option Bool)(d:(Unit×((List Int)×(Int×(Int×aE))))):=
 let e0:=d.2.2.2.2
 (bif (decide (d.2.2.2.1<d.2.2.1))then(if 0≤d.2.2.2.1 then(d.2.1[d.2.2.2.1.toNat]?).bind fun v0=>
 (bif (v0 != (-1:Int))then(bif (decide (v0<(0:Int)))then some false else(bif (decide ((999:Int)<v0))then some false else(if 0≤d.2.2.2.1 then(if d.2.2.2.1≤(e0.2.2.2.2.2.2.2.1.length:Int)then(cW k (((e0.2.2.2.2.2.2.2.1.take d.2.2.2.1.toNat).drop 0),v0)).bind fun v1=>
 (bif v1 then some false else self ((),d.2.1,d.2.2.1,(aa .i64 (d.2.2.2.1+(1:Int))),e0))else none)else none)))else self ((),d.2.1,d.2.2.1,(aa .i64 (d.2.2.2.1+(1:Int))),e0))else none)else(bif (e0.1==(2:Int))then some true else(bif ((e0.2.2.2.2.2.2.2.2.2.length:Int)==(0:Int))then some ((intBits .and .i64 e0.2.1 (512:Int))==(0:Int))else some false)))
def zR(k:Nat)(x0:aE):Option Bool:=
 (o4 (R:=Bool) ((bif (x0.1==(0:Int))then(lq k (x0,((0:Int),(0:Int),(0:Int),(0:Int),(0:Int),(0:Int),(0:Int),([]:List Int),([]:List aj),([]:List aj)))).bind fun y2=>
 ((some y2).map .inr)else(bif (x0.1==(1:Int))then(bif (x0.1==(1:Int))then some (.inl ((),x0))else((some false).map .inr))else(bif (x0.1==(2:Int))then some (.inl ((),x0))else((some false).map .inr))))) fun(d1:(Unit×aE))=>let e0:=d1.2.2.2.2;let e1:=e0.2.2.2.2;(jj k d1.2.2.1).bind fun y3=>
 (bif (!y3)then some false else(bT k d1.2.2.2.1).bind fun y4=>
 (bif (!y4)then some false else(bT k e0.1).bind fun y5=>
 (bif (!y5)then some false else(bif (decide (e0.2.1<(0:Int)))then some false else(bif (decide ((1000:Int)<e0.2.1))then some false else(bif (decide (e0.2.2.1<(0:Int)))then some false else(bif (decide ((256:Int)<e0.2.2.1))then some false else(bif (decide (e0.2.2.2.1<(0:Int)))then some false else(bif (decide ((1000000000:Int)<e0.2.2.2.1))then some false else(iU k e0.2.2.1).bind fun y6=>
 (bif ((e1.1.length:Int) != y6)then some false else(ir k e1.2.1).bind fun y7=>
 (bif (!y7)then some false else(ir k e1.2.2).bind fun y8=>
 (bif (!y8)then some false else iter k (jw k) ((),e1.1,(e1.1.length:Int),(0:Int),d1.2))))))))))))))
theorem Cq(k:Nat)(x0:aE):nL (k+1) (x0)=zR k x0:=by kernel_rfl
def tE(k:Nat)(x0:Int):Option Int:=
 (bif (decide (x0<(0:Int)))then some (-1:Int)else(bif (decide ((56:Int)≤x0))then some (-1:Int)else(if((14:Int):Int)≠0 then some (aa .i64 (x0.tdiv (14:Int)))else none)))
theorem wT(k:Nat)(x0:Int):kb (k+1) (x0)=tE k x0:=by kernel_rfl
def il(k:Nat)(self:_→Option Bool)(d:(ByteArray×aI)):=
 (bif (decide (d.2.2<d.2.1))then(if 0≤d.2.2 then((d.1[d.2.2.toNat]?.map fun v0=>(v0.toNat:Int))).bind fun v1=>
 (bif (v1 != (0:Int))then some false else self (d.1,d.2.1,(aa .i64 (d.2.2+(1:Int)))))else none)else some true)
def yb(k:Nat)(x0:ByteArray):Option Bool:=
 iter k (il k) (x0,(x0.size:Int),(0:Int))
theorem zV(k:Nat)(x0:ByteArray):jk (k+1) (x0)=yb k x0:=by kernel_rfl
def km(k:Nat)(a0:_→Option Bool)(self:_→Option Bool)(d:(Unit×(Unit×(Unit×((List aE)×(Int×(Int×((List Int)×(Int×(Int×(aE×((List Bool)×bW)))))))))))):=
 let e0:=d.2.2.2.2
 let e1:=e0.2.2.2.2
 (bif (decide (e1.1<e0.2.2.2.1))then(if 0≤e1.1 then(e0.2.2.1[e1.1.toNat]?).bind fun v0=>
 (bif (v0==(-1:Int))then self ((),(),(),d.2.2.2.1,e0.1,e0.2.1,e0.2.2.1,e0.2.2.2.1,(aa .i64 (e1.1+(1:Int))),e1.2.1,e1.2.2.1,e1.2.2.2)else(kb k v0).bind fun v1=>
 (bif (v1 != e1.2.1.2.2.1)then some false else(if 0≤v0 then(if v0<(56:Int)then(e1.2.2.1[v0.toNat]?).bind fun v2=>
 (bif v2 then some false else(if 0≤v0 then(if v0<(56:Int)then(e1.2.2.1[v0.toNat]?).bind fun v3=>
 (bif (decide ((aa .i64 (e1.2.1.2.2.2.2.2.1-(aa .i64 (e1.1*(32:Int)))))<(32:Int)))then(if 0≤v0 then(e1.2.2.2.2.2.2[v0.toNat]?).bind fun v4=>
 (if 0≤(aa .i64 (e1.2.1.2.2.2.2.2.1-(aa .i64 (e1.1*(32:Int)))))then(if(aa .i64 (e1.2.1.2.2.2.2.2.1-(aa .i64 (e1.1*(32:Int)))))≤(v4.size:Int)then(jk k (v4.extract ((aa .i64 (e1.2.1.2.2.2.2.2.1-(aa .i64 (e1.1*(32:Int))))).toNat) v4.size)).bind fun v5=>
 (bif (!v5)then some false else self ((),(),(),d.2.2.2.1,e0.1,e0.2.1,e0.2.2.1,e0.2.2.2.1,(aa .i64 (e1.1+(1:Int))),e1.2.1,(e1.2.2.1.set v0.toNat true),e1.2.2.2))else none)else none)else none)else self ((),(),(),d.2.2.2.1,e0.1,e0.2.1,e0.2.2.1,e0.2.2.2.1,(aa .i64 (e1.1+(1:Int))),e1.2.1,(e1.2.2.1.set v0.toNat true),e1.2.2.2))else none)else none))else none)else none)))else none)else a0 ((),(),d.2.2.2.1,e0.1,(aa .i64 (e0.2.1+(1:Int))),e1.2.2.1,e1.2.2.2))
def ij(k:Nat)(self:_→Option Bool)(d:(Unit×(Unit×((List ByteArray)×(Int×(Int×((List Bool)×bW))))))):=
 let e0:=d.2.2.2.2
 (bif (decide (e0.1<d.2.2.2.1))then(if 0≤e0.1 then(d.2.2.1[e0.1.toNat]?).bind fun v0=>
 (if 0≤e0.1 then(if e0.1<(56:Int)then(e0.2.1[e0.1.toNat]?).bind fun v1=>
 (bif (!v1)then(jk k v0).bind fun v2=>
 (bif (!v2)then some false else self ((),(),d.2.2.1,d.2.2.2.1,(aa .i64 (e0.1+(1:Int))),e0.2.1,e0.2.2))else self ((),(),d.2.2.1,d.2.2.2.1,(aa .i64 (e0.1+(1:Int))),e0.2.1,e0.2.2))else none)else none)else none)else(if 0≤(0:Int)then(e0.2.2.2.2.1[(0:Int).toNat]?).bind fun v3=>
 some (v3.1==(2:Int))else none))
def iJ(k:Nat)(self:_→Option Bool)(d:(Unit×(Unit×((List aE)×(Int×(Int×((List Bool)×bW))))))):=
 let e0:=d.2.2.2.2
 (bif (decide (e0.1<d.2.2.2.1))then(if 0≤e0.1 then(d.2.2.1[e0.1.toNat]?).bind fun v0=>
 (nL k v0).bind fun v1=>
 (bif (!v1)then some false else iter k (km k self) ((),(),(),d.2.2.1,d.2.2.2.1,e0.1,v0.2.2.2.2.2.2.2.1,(v0.2.2.2.2.2.2.2.1.length:Int),(0:Int),v0,e0.2.1,e0.2.2))else none)else iter k (ij k) ((),(),e0.2.2.2.2.2,(e0.2.2.2.2.2.length:Int),(0:Int),e0.2.1,e0.2.2))
def kr(k:Nat)(self:_→Option Bool)(d:(Unit×((List ByteArray)×(Int×(Int×bW))))):=
 let e0:=d.2.2.2.2
 (bif (decide (d.2.2.2.1<d.2.2.1))then(if 0≤d.2.2.2.1 then(d.2.1[d.2.2.2.1.toNat]?).bind fun v0=>
 (bif ((v0.size:Int) != (32:Int))then some false else self ((),d.2.1,d.2.2.1,(aa .i64 (d.2.2.2.1+(1:Int))),e0))else none)else iter k (iJ k) ((),(),e0.2.2.1,(e0.2.2.1.length:Int),(0:Int),(List.replicate 56 false),e0))
def nE(k:Nat)(self:_→Option Bool)(d:(Unit×((List aI)×(Int×(Int×bW))))):=
 let e0:=d.2.2.2.2
 (bif (decide (d.2.2.2.1<d.2.2.1))then(if 0≤d.2.2.2.1 then(d.2.1[d.2.2.2.1.toNat]?).bind fun v0=>
 (bif (decide (v0.1<(0:Int)))then some false else(bif (decide ((5:Int)<v0.1))then some false else(bif (decide (v0.2<(0:Int)))then some false else(bif (decide ((14:Int)<v0.2))then some false else self ((),d.2.1,d.2.2.1,(aa .i64 (d.2.2.2.1+(1:Int))),e0)))))else none)else iter k (kr k) ((),e0.2.2.2,(e0.2.2.2.length:Int),(0:Int),e0))
def Hw(k:Nat)(x0:bW):Option Bool:=
 (bif (decide (x0.1<(0:Int)))then some false else(bif (decide ((1000000000:Int)<x0.1))then some false else(bif ((x0.2.1.length:Int) != (4:Int))then some false else(bif ((x0.2.2.1.length:Int) != (20:Int))then some false else(bif ((x0.2.2.2.length:Int) != (56:Int))then some false else iter k (nE k) ((),x0.2.1,(x0.2.1.length:Int),(0:Int),x0))))))
theorem Gg(k:Nat)(x0:bW):fy (k+1) (x0)=Hw k x0:=by kernel_rfl
def kG(k:Nat)(self:_→Option Bool)(d:(Unit×((List Int)×(Int×(Int×aS))))):=
 let e0:=d.2.2.2.2
 (bif (decide (d.2.2.2.1<d.2.2.1))then(if 0≤d.2.2.2.1 then(d.2.1[d.2.2.2.1.toNat]?).bind fun v0=>
 (bT k v0).bind fun v1=>
 (bif (!v1)then some false else(bif (decide ((0:Int)<d.2.2.2.1))then(if 0≤(aa .i64 (d.2.2.2.1-(1:Int)))then(e0.2.2[(aa .i64 (d.2.2.2.1-(1:Int))).toNat]?).bind fun v2=>
 (bif (decide (v0≤v2))then some false else self ((),d.2.1,d.2.2.1,(aa .i64 (d.2.2.2.1+(1:Int))),e0))else none)else self ((),d.2.1,d.2.2.1,(aa .i64 (d.2.2.2.1+(1:Int))),e0)))else none)else(bT k e0.1).bind fun v3=>
 (bif v3 then(bT k e0.2.1).bind fun v4=>
 some v4 else some false))
def De(k:Nat)(x0:aS):Option Bool:=
 iter k (kG k) ((),x0.2.2,(x0.2.2.length:Int),(0:Int),x0)
theorem Dv(k:Nat)(x0:aS):eT (k+1) (x0)=De k x0:=by kernel_rfl
def C1(k:Nat)(x0:(Option bW))(x1:Int):Option Bool:=
 (bif (decide ((0:Int)≤x1))then(bif (decide (x1<(20:Int)))then(x0).bind fun y1=>
 (if 0≤x1 then(y1.2.2.1[x1.toNat]?).bind fun y2=>
 some (y2.1 != (0:Int))else none)else some false)else some false)
theorem DQ(k:Nat)(x0:(Option bW))(x1:Int):ji (k+1) (x0,x1)=C1 k x0 x1:=by kernel_rfl
def Db(k:Nat)(x0:Int)(x1:Int):Option Int:=
 (jj k x0).bind fun y1=>
 (bif (!y1)then some (0:Int)else(bif (decide (x1<(0:Int)))then some (0:Int)else(bif (decide ((2:Int)<x1))then some (0:Int)else(if 0≤(aa .i64 ((6:Int)-(aa .i64 ((3:Int)*x1))))then some (intBits .and .i64 (x0.fdiv (2 ^(min (aa .i64 ((6:Int)-(aa .i64 ((3:Int)*x1)))).toNat (IntKind.bits .i64)))) (7:Int))else none))))
theorem Dk(k:Nat)(x0:Int)(x1:Int):iZ (k+1) (x0,x1)=Db k x0 x1:=by kernel_rfl
def kh(k:Nat)(self:_→Option Int)(d:((List aj)×aI)):=
 (bif (decide (d.2.2<d.2.1))then(if 0≤d.2.2 then(d.1[d.2.2.toNat]?).bind fun v0=>
 (bif (v0.1==(3:Int))then some v0.2.2 else self (d.1,d.2.1,(aa .i64 (d.2.2+(1:Int)))))else none)else some (7:Int))
def uI(k:Nat)(x0:(List aj)):Option Int:=
 iter k (kh k) (x0,(x0.length:Int),(0:Int))
theorem Dp(k:Nat)(x0:(List aj)):pL (k+1) (x0)=uI k x0:=by kernel_rfl
def jl(k:Nat)(self:_→Option (Int×Bool))(d:(Int×(Int×((List aj)×aI)))):=
 let e0:=d.2.2.2.2
 (bif (decide (e0<d.2.2.2.1))then(if 0≤e0 then(d.2.2.1[e0.toNat]?).bind fun v0=>
 (bif (v0.1==d.1)then(bif (v0.2.1==d.2.1)then some (v0.2.2,true)else self (d.1,d.2.1,d.2.2.1,d.2.2.2.1,(aa .i64 (e0+(1:Int)))))else self (d.1,d.2.1,d.2.2.1,d.2.2.2.1,(aa .i64 (e0+(1:Int)))))else none)else some ((0:Int),false))
def rN(k:Nat)(x0:(List aj))(x1:Int)(x2:Int):Option (Int×Bool):=
 iter k (jl k) (x1,x2,x0,(x0.length:Int),(0:Int))
theorem Bo(k:Nat)(x0:(List aj))(x1:Int)(x2:Int):oC (k+1) (x0,x1,x2)=rN k x0 x1 x2:=by kernel_rfl
def Ab(k:Nat)(x0:aS)(x1:Int):Option Bool:=
 (bif (x1==x0.2.1)then some true else(cW k (x0.2.2,x1)).bind fun y1=>
 some y1)
theorem Cg(k:Nat)(x0:aS)(x1:Int):kk (k+1) (x0,x1)=Ab k x0 x1:=by kernel_rfl
def eC(k:Nat)(self:_→Option Bool)(d:(Unit×(Unit×(Int×(Int×((List Int)×(Int×aS))))))):=
 let e0:=d.2.2.2.2
 (bif (decide (d.2.2.2.1<d.2.2.1))then(if 0≤d.2.2.2.1 then(if d.2.2.2.1<(e0.1.length:Int)then(e0.1[d.2.2.2.1.toNat]?).bind fun v0=>
 (bif ((intBits .and .i64 v0 e0.2.1)==e0.2.1)then some (decide ((0:Int)≤d.2.2.2.1))else self ((),(),d.2.2.1,(aa .i64 (d.2.2.2.1+(1:Int))),e0.1,e0.2.1,e0.2.2))else none)else none)else some (decide ((0:Int)≤(-1:Int))))
def ga(k:Nat)(self:_→Option Bool)(d:(Int×(Unit×(Unit×(Int×((List Int)×((List aj)×(Int×(Int×(Int×aS)))))))))):=
 let e0:=d.2.2.2.2
 let e1:=e0.2.2.2.2
 (bif (decide (e0.2.2.2.1<e0.2.2.1))then(if 0≤e0.2.2.2.1 then(e0.2.1[e0.2.2.2.1.toNat]?).bind fun v0=>
 (bif (v0.1==(2:Int))then(kk k (e1.2,v0.2.1)).bind fun v1=>
 (bif v1 then(if(e0.1.length+([v0.2.2]:List Int).length)*8≤au then self (d.1,(),(),d.2.2.2.1,(e0.1++([v0.2.2]:List Int)),e0.2.1,e0.2.2.1,(aa .i64 (e0.2.2.2.1+(1:Int))),e1.1,e1.2)else none)else self (d.1,(),(),d.2.2.2.1,e0.1,e0.2.1,e0.2.2.1,(aa .i64 (e0.2.2.2.1+(1:Int))),e1.1,e1.2))else self (d.1,(),(),d.2.2.2.1,e0.1,e0.2.1,e0.2.2.1,(aa .i64 (e0.2.2.2.1+(1:Int))),e1.1,e1.2))else none)else(bif (decide ((0:Int)<(e0.1.length:Int)))then(bif ((intBits .and .i64 d.2.2.2.1 e1.1)==e1.1)then iter k (eC k) ((),(),(e0.1.length:Int),(0:Int),e0.1,e1.1,e1.2)else some false)else(iZ k (d.1,(2:Int))).bind fun v2=>
 some ((intBits .and .i64 v2 e1.1)==e1.1)))
def sN(k:Nat)(x0:aS)(x1:Int)(x2:Int)(x3:Int)(x4:(List aj))(x5:Int):Option Bool:=
 (eT k x0).bind fun y1=>
 (bif (!y1)then some false else(ir k x4).bind fun y2=>
 (bif (!y2)then some false else(bT k x1).bind fun y3=>
 (bif (!y3)then some false else(bT k x2).bind fun y4=>
 (bif (!y4)then some false else(jj k x3).bind fun y5=>
 (bif (!y5)then some false else(bif (decide (x5<(0:Int)))then some false else(bif (decide ((7:Int)<x5))then some false else(bif (x0.1==(0:Int))then some true else(bif (x0.1==x1)then(iZ k (x3,(0:Int))).bind fun y6=>
 some ((intBits .and .i64 y6 x5)==x5)else(pL k x4).bind fun y7=>
 (oC k (x4,(1:Int),x0.1)).bind fun y8=>
 (bif y8.2 then some ((intBits .and .i64 (intBits .and .i64 y8.1 y7) x5)==x5)else(o4 (R:=Bool) ((kk k (x0,x2)).bind fun y10=>
 (bif y10 then(iZ k (x3,(1:Int))).bind fun y11=>
 (if(([]:List Int).length+([y11]:List Int).length)*8≤au then some (.inl (x3,x4,(),(),y7,(([]:List Int)++([y11]:List Int)),x5,x0))else none)else some (.inl (x3,x4,(),(),y7,([]:List Int),x5,x0)))) fun(d9:(Int×((List aj)×(Unit×(Unit×(Int×((List Int)×(Int×aS))))))))=>let e0:=d9.2.2.2.2;iter k (ga k) (d9.1,(),(),e0.1,e0.2.1,d9.2.1,(d9.2.1.length:Int),(0:Int),e0.2.2.1,e0.2.2.2))))))))))))
theorem qY(k:Nat)(x0:aS)(x1:Int)(x2:Int)(x3:Int)(x4:(List aj))(x5:Int):n6 (k+1) (x0,x1,x2,x3,x4,x5)=sN k x0 x1 x2 x3 x4 x5:=by kernel_rfl
def CZ(k:Nat)(x0:(Option bW))(x1:aS)(x2:Int)(x3:Int):Option Bool:=
 (ji k (x0,x2)).bind fun y1=>
 (bif (!y1)then some false else(x0).bind fun y2=>
 (if 0≤x2 then(y2.2.2.1[x2.toNat]?).bind fun y3=>
 (n6 k (x1,y3.2.2.1,y3.2.2.2.1,y3.2.1,y3.2.2.2.2.2.2.2.2.1,x3)).bind fun y4=>
 some y4 else none))
theorem DO(k:Nat)(x0:(Option bW))(x1:aS)(x2:Int)(x3:Int):jb (k+1) (x0,x1,x2,x3)=CZ k x0 x1 x2 x3:=by kernel_rfl
def xv(k:Nat)(x0:(Option bW))(x1:Int):Option Bool:=
 (ji k (x0,x1)).bind fun y1=>
 (bif y1 then(x0).bind fun y2=>
 (if 0≤x1 then(y2.2.2.1[x1.toNat]?).bind fun y3=>
 some (y3.1==(2:Int))else none)else some false)
theorem Aa(k:Nat)(x0:(Option bW))(x1:Int):js (k+1) (x0,x1)=xv k x0 x1:=by kernel_rfl
def ED(k:Nat)(x0:Int):Option ByteArray:=
 (if 0≤x0 then(if x0≤x0 then(if x0*1≤(au:Int)then some (ofBytes (List.replicate x0.toNat (0:Int)))else none)else none)else none)
theorem Fe(k:Nat)(x0:Int):rJ (k+1) (x0)=ED k x0:=by kernel_rfl
def fN(k:Nat)(self:_→Option ByteArray)(d:((Option bW)×(Unit×(ByteArray×((List Int)×(Int×(Int×aE))))))):=
 let e0:=d.2.2.2.2
 (bif (decide (e0.2.1<e0.1))then(if 0≤e0.2.1 then(d.2.2.2.1[e0.2.1.toNat]?).bind fun v0=>
 (bif (v0==(-1:Int))then(rJ k (32:Int)).bind fun v1=>
 (if d.2.2.1.size+v1.size≤9223372036854775807 then self (d.1,(),(d.2.2.1++v1),d.2.2.2.1,e0.1,(aa .i64 (e0.2.1+(1:Int))),e0.2.2)else none)else(d.1).bind fun v2=>
 (if 0≤v0 then(v2.2.2.2[v0.toNat]?).bind fun v3=>
 (if d.2.2.1.size+v3.size≤9223372036854775807 then self (d.1,(),(d.2.2.1++v3),d.2.2.2.1,e0.1,(aa .i64 (e0.2.1+(1:Int))),e0.2.2)else none)else none))else none)else(if 0≤e0.2.2.2.2.2.2.2.1 then(if e0.2.2.2.2.2.2.2.1≤(d.2.2.1.size:Int)then some (d.2.2.1.extract 0 e0.2.2.2.2.2.2.2.1.toNat)else none)else none))
def tz(k:Nat)(x0:(Option bW))(x1:Int):Option ByteArray:=
 (x0).bind fun y1=>
 (if 0≤x1 then(y1.2.2.1[x1.toNat]?).bind fun y2=>
 iter k (fN k) (x0,(),(⟨#[]⟩:ByteArray),y2.2.2.2.2.2.2.2.1,(y2.2.2.2.2.2.2.2.1.length:Int),(0:Int),y2)else none)
theorem wR(k:Nat)(x0:(Option bW))(x1:Int):gz (k+1) (x0,x1)=tz k x0 x1:=by kernel_rfl
def qk(k:Nat)(x0:ByteArray):Option Bool:=
 (bif (decide ((1:Int)≤(x0.size:Int)))then(bif (decide ((x0.size:Int)≤(12:Int)))then(gx k (x0,(⟨#[0,47]⟩:ByteArray))).bind fun y1=>
 (bif (!y1)then(bif (!(Cl x0 (⟨#[46]⟩:ByteArray)))then some (!(Cl x0 (⟨#[46,46]⟩:ByteArray)))else some false)else some false)else some false)else some false)
theorem vp(k:Nat)(x0:ByteArray):jz (k+1) (x0)=qk k x0:=by kernel_rfl
def kT(k:Nat)(self:_→Option (List ByteArray))(d:(ByteArray×(Int×(List ByteArray)))):=
 (bif (decide ((0:Int)<(d.1.size:Int)))then(if 0≤(min d.2.1 (d.1.size:Int))then(if(min d.2.1 (d.1.size:Int))≤(d.1.size:Int)then(if(d.2.2.length+([(d.1.extract 0 ((min d.2.1 (d.1.size:Int)).toNat))]:List ByteArray).length)*16≤au then(if 0≤(min d.2.1 (d.1.size:Int))then(if(min d.2.1 (d.1.size:Int))≤(d.1.size:Int)then self ((d.1.extract ((min d.2.1 (d.1.size:Int)).toNat) d.1.size),d.2.1,(d.2.2++([(d.1.extract 0 ((min d.2.1 (d.1.size:Int)).toNat))]:List ByteArray)))else none)else none)else none)else none)else none)else some d.2.2)
def CK(k:Nat)(x0:ByteArray)(x1:Int):Option (List ByteArray):=
 (bif (decide (x1<(1:Int)))then some ([]:List ByteArray)else(bif (decide ((1000:Int)<x1))then some ([]:List ByteArray)else iter k (kT k) (x0,x1,([]:List ByteArray))))
theorem Dt(k:Nat)(x0:ByteArray)(x1:Int):pH (k+1) (x0,x1)=CK k x0 x1:=by kernel_rfl
def gI(k:Nat)(self:_→Option (Int×Bool))(d:(ByteArray×(Int×aj))):=
 let e0:=d.2.2.2.2
 (bif (decide (e0<d.2.2.2.1))then(if 0≤(8:Int)then(if 0≤(aa .i64 (d.2.1+e0))then((d.1[(aa .i64 (d.2.1+e0)).toNat]?.map fun v0=>(v0.toNat:Int))).bind fun v1=>
 self (d.1,d.2.1,(intBits .or .i64 (aa .i64 (d.2.2.1*2 ^(min (8:Int).toNat (IntKind.bits .i64)))) (aa .i64 v1)),d.2.2.2.1,(aa .i64 (e0+(1:Int))))else none)else none)else some (d.2.2.1,true))
def vu(k:Nat)(x0:ByteArray)(x1:Int)(x2:Int):Option (Int×Bool):=
 (bif (decide (x2<(1:Int)))then some ((0:Int),false)else(bif (decide ((6:Int)<x2))then some ((0:Int),false)else(bif (decide (x1<(0:Int)))then some ((0:Int),false)else(bif (decide ((aa .i64 ((x0.size:Int)-x2))<x1))then some ((0:Int),false)else iter k (gI k) (x0,x1,(0:Int),x2,(0:Int))))))
theorem zm(k:Nat)(x0:ByteArray)(x1:Int)(x2:Int):lf (k+1) (x0,x1,x2)=vu k x0 x1 x2:=by kernel_rfl
def E5(k:Nat)(x0:ByteArray)(x1:Int):Option ByteArray:=
 (bif (decide (x1≤(x0.size:Int)))then some x0 else(bif (decide ((100000:Int)<x1))then some (⟨#[]⟩:ByteArray)else(rj k ((⟨#[0]⟩:ByteArray),(aa .i64 (x1-(x0.size:Int))))).bind fun y1=>
 (if x0.size+y1.size≤9223372036854775807 then some (x0++y1)else none)))
theorem Fb(k:Nat)(x0:ByteArray)(x1:Int):sy (k+1) (x0,x1)=E5 k x0 x1:=by kernel_rfl
def gF(k:Nat)(self:_→Option ByteArray)(d:(Int×((List Int)×Int))):=
 (bif (decide ((0:Int)≤d.2.2))then(if 0≤d.2.2 then(if d.2.2<(d.2.1.length:Int)then(d.2.1[d.2.2.toNat]?).bind fun v0=>
 (if 0≤(8:Int)then self ((d.1.fdiv (2 ^(min (8:Int).toNat (IntKind.bits .i64)))),(d.2.1.set d.2.2.toNat (aa .u8 d.1)),(aa .i64 (d.2.2-(1:Int))))else none)else none)else none)else some (ofBytes d.2.1))
def vQ(k:Nat)(x0:Int)(x1:Int):Option ByteArray:=
 (bif (decide (x1<(1:Int)))then some (⟨#[]⟩:ByteArray)else(bif (decide ((6:Int)<x1))then some (⟨#[]⟩:ByteArray)else(bif (decide (x0<(0:Int)))then some (⟨#[]⟩:ByteArray)else(if 0≤(aa .i64 ((8:Int)*x1))then(bif (decide ((aa .i64 ((1:Int)*2 ^(min (aa .i64 ((8:Int)*x1)).toNat (IntKind.bits .i64))))≤x0))then some (⟨#[]⟩:ByteArray)else(if 0≤x1 then(if x1≤x1 then(if x1*1≤(au:Int)then iter k (gF k) (x0,(List.replicate x1.toNat (0:Int)),(aa .i64 (x1-(1:Int))))else none)else none)else none))else none))))
theorem yR(k:Nat)(x0:Int)(x1:Int):iH (k+1) (x0,x1)=vQ k x0 x1:=by kernel_rfl
def Cz(k:Nat)(x0:ar):Option ByteArray:=
 (iH k ((aa .i64 (x0.2+(1:Int))),(2:Int))).bind fun y1=>
 (iH k ((x0.1.size:Int),(1:Int))).bind fun y2=>
 (if y1.size+y2.size≤9223372036854775807 then(if(y1++y2).size+x0.1.size≤9223372036854775807 then(sy k (((y1++y2)++x0.1),(16:Int))).bind fun y3=>
 some y3 else none)else none)
theorem DF(k:Nat)(x0:ar):p8 (k+1) (x0)=Cz k x0:=by kernel_rfl
def ek(k:Nat)(self:_→Option (List ar))(d:((List ar)×((List ByteArray)×aI))):=
 (bif (decide (d.2.2.2<d.2.2.1))then(if 0≤d.2.2.2 then(if d.2.2.2<(d.2.1.length:Int)then(d.2.1[d.2.2.2.toNat]?).bind fun v0=>
 (bif (decide ((v0.size:Int)<(16:Int)))then self (d.1,d.2.1,d.2.2.1,(aa .i64 (d.2.2.2+(1:Int))))else(if 0≤(2:Int)then((v0[(2:Int).toNat]?.map fun v1=>(v1.toNat:Int))).bind fun v2=>
 (bif (decide ((12:Int)<(aa .i64 v2)))then self (d.1,d.2.1,d.2.2.1,(aa .i64 (d.2.2.2+(1:Int))))else(lf k (v0,(0:Int),(2:Int))).bind fun v3=>
 (if 0≤(2:Int)then((v0[(2:Int).toNat]?.map fun v1=>(v1.toNat:Int))).bind fun v4=>
 (if 0≤(aa .i64 ((3:Int)+(aa .i64 v4)))then(if(aa .i64 ((3:Int)+(aa .i64 v4)))≤(v0.size:Int)then(if 0≤(3:Int)then(if(3:Int)≤(((aa .i64 ((3:Int)+(aa .i64 v4))).toNat:Nat):Int)then(bif (decide ((0:Int)≤(aa .i64 (v3.1-(1:Int)))))then(bif (decide ((aa .i64 (v3.1-(1:Int)))<(20:Int)))then(jz k (v0.extract ((3:Int).toNat) ((aa .i64 ((3:Int)+(aa .i64 v4))).toNat))).bind fun v5=>
 (bif v5 then(p8 k ((v0.extract ((3:Int).toNat) ((aa .i64 ((3:Int)+(aa .i64 v4))).toNat)),(aa .i64 (v3.1-(1:Int))))).bind fun v6=>
 (bif (Cl v6 v0)then(if(d.1.length+([((v0.extract ((3:Int).toNat) ((aa .i64 ((3:Int)+(aa .i64 v4))).toNat)),(aa .i64 (v3.1-(1:Int))))]:List ar).length)*24≤au then self ((d.1++([((v0.extract ((3:Int).toNat) ((aa .i64 ((3:Int)+(aa .i64 v4))).toNat)),(aa .i64 (v3.1-(1:Int))))]:List ar)),d.2.1,d.2.2.1,(aa .i64 (d.2.2.2+(1:Int))))else none)else self (d.1,d.2.1,d.2.2.1,(aa .i64 (d.2.2.2+(1:Int)))))else self (d.1,d.2.1,d.2.2.1,(aa .i64 (d.2.2.2+(1:Int)))))else self (d.1,d.2.1,d.2.2.1,(aa .i64 (d.2.2.2+(1:Int)))))else self (d.1,d.2.1,d.2.2.1,(aa .i64 (d.2.2.2+(1:Int)))))else none)else none)else none)else none)else none))else none))else none)else none)else some d.1)
def tM(k:Nat)(x0:(Option bW))(x1:Int):Option (List ar):=
 (gz k (x0,x1)).bind fun y1=>
 (pH k (y1,(16:Int))).bind fun y2=>
 iter k (ek k) (([]:List ar),y2,(y2.length:Int),(0:Int))
theorem wY(k:Nat)(x0:(Option bW))(x1:Int):eL (k+1) (x0,x1)=tM k x0 x1:=by kernel_rfl
def cE(k:Nat)(self:_→Option (Int×Bool))(d:(ByteArray×((List ar)×aI))):=
 (bif (decide (d.2.2.2<d.2.2.1))then(if 0≤d.2.2.2 then(if d.2.2.2<(d.2.1.length:Int)then(d.2.1[d.2.2.2.toNat]?).bind fun v0=>
 (bif (Cl v0.1 d.1)then some (v0.2,true)else self (d.1,d.2.1,d.2.2.1,(aa .i64 (d.2.2.2+(1:Int)))))else none)else none)else some ((0:Int),false))
def zK(k:Nat)(x0:(Option bW))(x1:Int)(x2:ByteArray):Option (Int×Bool):=
 (eL k (x0,x1)).bind fun y1=>
 iter k (cE k) (x2,y1,(y1.length:Int),(0:Int))
theorem Bv(k:Nat)(x0:(Option bW))(x1:Int)(x2:ByteArray):oF (k+1) (x0,x1,x2)=zK k x0 x1 x2:=by kernel_rfl
def c8(k:Nat)(a0:_→Option (List Bool))(self:_→Option (List Bool))(d:((Option bW)×(Unit×(Unit×(Unit×(Unit×(Int×(Unit×(Int×(Int×((List Bool)×(Int×((List ar)×(Int×(Int×((List Bool)×((List Bool)×((List Bool)×((List Bool)×aS))))))))))))))))))):=
 let e0:=d.2.2.2.2
 let e1:=e0.2.2.2.2
 let e2:=e1.2.2.2.2
 let e3:=e2.2.2.2.2
 (bif (decide (e2.2.1<e2.1))then(if 0≤e2.2.1 then(if e2.2.1<(e1.2.2.2.1.length:Int)then(e1.2.2.2.1[e2.2.1.toNat]?).bind fun v0=>
 (oF k (d.1,e0.2.2.2.1,v0.1)).bind fun v1=>
 (ji k (d.1,v1.1)).bind fun v2=>
 (bif v2 then(if 0≤v1.1 then(if v1.1<(20:Int)then(e2.2.2.2.1[v1.1.toNat]?).bind fun v3=>
 self (d.1,(),(),(),(),e0.2.1,(),e0.2.2.2.1,e1.1,e1.2.1,e1.2.2.1,e1.2.2.2.1,e2.1,(aa .i64 (e2.2.1+(1:Int))),e2.2.2.1,(e2.2.2.2.1.set v1.1.toNat true),e3.1,e3.2.1,e3.2.2)else none)else none)else self (d.1,(),(),(),(),e0.2.1,(),e0.2.2.2.1,e1.1,e1.2.1,e1.2.2.1,e1.2.2.2.1,e2.1,(aa .i64 (e2.2.1+(1:Int))),e2.2.2.1,e2.2.2.2.1,e3.1,e3.2.1,e3.2.2))else none)else none)else a0 (d.1,(),(),(),(),e0.2.1,(),e1.1,e1.2.1,(aa .i64 (e1.2.2.1+(1:Int))),e2.2.2.2.1,e3.1,e2.2.2.1,e3.2.1,e3.2.2))
def eg(k:Nat)(a0:_→Option (List Bool))(self:_→Option (List Bool))(d:((Option bW)×(Unit×(Unit×(Unit×(Unit×(Int×(Unit×(Int×((List Bool)×(Int×((List Bool)×((List Bool)×((List Bool)×((List Bool)×aS))))))))))))))):=
 let e0:=d.2.2.2.2
 let e1:=e0.2.2.2.2
 let e2:=e1.2.2.2.2
 (bif (decide (e1.2.1<(20:Int)))then(if 0≤e1.2.1 then(e1.1[e1.2.1.toNat]?).bind fun v0=>
 (bif (!v0)then self (d.1,(),(),(),(),e0.2.1,(),e0.2.2.2.1,e1.1,(aa .i64 (e1.2.1+(1:Int))),e1.2.2.1,e1.2.2.2.1,e2.1,e2.2.1,e2.2.2)else(if 0≤e1.2.1 then(if e1.2.1<(20:Int)then(e2.1[e1.2.1.toNat]?).bind fun v1=>
 (bif (e0.2.1==(8:Int))then self (d.1,(),(),(),(),e0.2.1,(),e0.2.2.2.1,e1.1,(aa .i64 (e1.2.1+(1:Int))),e1.2.2.1,e1.2.2.2.1,(e2.1.set e1.2.1.toNat true),e2.2.1,e2.2.2)else(js k (d.1,e1.2.1)).bind fun v2=>
 (bif (!v2)then self (d.1,(),(),(),(),e0.2.1,(),e0.2.2.2.1,e1.1,(aa .i64 (e1.2.1+(1:Int))),e1.2.2.1,e1.2.2.2.1,(e2.1.set e1.2.1.toNat true),e2.2.1,e2.2.2)else(jb k (d.1,e2.2.2,e1.2.1,(1:Int))).bind fun v3=>
 (bif (!v3)then self (d.1,(),(),(),(),e0.2.1,(),e0.2.2.2.1,e1.1,(aa .i64 (e1.2.1+(1:Int))),e1.2.2.1,e1.2.2.2.1,(e2.1.set e1.2.1.toNat true),e2.2.1,e2.2.2)else(eL k (d.1,e1.2.1)).bind fun v4=>
 iter k (c8 k self) (d.1,(),(),(),(),e0.2.1,(),e1.2.1,e0.2.2.2.1,e1.1,e1.2.1,v4,(v4.length:Int),(0:Int),(e2.1.set e1.2.1.toNat true),e1.2.2.1,e1.2.2.2.1,e2.2.1,e2.2.2))))else none)else none))else none)else a0 (d.1,(),(),(),(),(aa .i64 (e0.2.2.2.1+(1:Int))),e1.2.2.1,e2.1,e2.2.1,e2.2.2))
def fB(k:Nat)(self:_→Option (List Bool))(d:((Option bW)×(Unit×(Unit×(Unit×(Unit×(Int×((List Bool)×((List Bool)×((List Bool)×aS)))))))))):=
 let e0:=d.2.2.2.2
 (bif (decide (e0.2.1<(9:Int)))then iter k (eg k self) (d.1,(),(),(),(),e0.2.1,(),e0.2.1,e0.2.2.1,(0:Int),(List.replicate 20 false),e0.2.2.1,e0.2.2.2.1,e0.2.2.2.2.1,e0.2.2.2.2.2)else some e0.2.2.2.1)
def th(k:Nat)(x0:(Option bW))(x1:aS):Option (List Bool):=
 (if 0≤(0:Int)then(if(0:Int)<(20:Int)then((List.replicate 20 false)[(0:Int).toNat]?).bind fun y1=>
 iter k (fB k) (x0,(),(),(),(),(0:Int),((List.replicate 20 false).set (0:Int).toNat true),(List.replicate 20 false),(List.replicate 20 false),x1)else none)else none)
theorem wO(k:Nat)(x0:(Option bW))(x1:aS):eJ (k+1) (x0,x1)=th k x0 x1:=by kernel_rfl
def ep(k:Nat)(self:_→Option (List Int))(d:((List Int)×((List Bool)×Int))):=
 (bif (decide (d.2.2<(20:Int)))then(if 0≤d.2.2 then(d.2.1[d.2.2.toNat]?).bind fun v0=>
 (bif v0 then(if(d.1.length+([d.2.2]:List Int).length)*8≤au then self ((d.1++([d.2.2]:List Int)),d.2.1,(aa .i64 (d.2.2+(1:Int))))else none)else self (d.1,d.2.1,(aa .i64 (d.2.2+(1:Int)))))else none)else some d.1)
def nX(k:Nat)(x0:bW)(x1:aS):Option (List Int):=
 (fy k x0).bind fun y1=>
 (bif (!y1)then some ([]:List Int)else(eT k x1).bind fun y2=>
 (bif (!y2)then some ([]:List Int)else(eJ k ((some x0),x1)).bind fun y3=>
 iter k (ep k) (([]:List Int),y3,(0:Int))))
theorem rW(k:Nat)(x0:bW)(x1:aS):gZ (k+1) (x0,x1)=nX k x0 x1:=by kernel_rfl
def vN(k:Nat)(x0:Int):Option ByteArray:=
 (vd k x0).bind fun y1=>
 some y1
theorem yQ(k:Nat)(x0:Int):bn (k+1) (x0)=vN k x0:=by kernel_rfl
def G7(k:Nat)(x0:(List ByteArray))(x1:ByteArray):Option ByteArray:=
 (vj k (x0,x1)).bind fun y1=>
 some y1
theorem GI(k:Nat)(x0:(List ByteArray))(x1:ByteArray):mA (k+1) (x0,x1)=G7 k x0 x1:=by kernel_rfl
def gO(k:Nat)(self:_→Option ByteArray)(d:((List ByteArray)×((List aj)×aI))):=
 (bif (decide (d.2.2.2<d.2.2.1))then(if 0≤d.2.2.2 then(d.2.1[d.2.2.2.toNat]?).bind fun v0=>
 (if 0≤v0.1 then(if v0.1≤(((⟨#[117,103,109]⟩:ByteArray).size:Nat):Int)then(if 0≤(aa .i64 (v0.1-(1:Int)))then(if(aa .i64 (v0.1-(1:Int)))≤(v0.1.toNat:Int)then(bn k v0.2.1).bind fun v1=>
 (if((⟨#[117,103,109]⟩:ByteArray).extract ((aa .i64 (v0.1-(1:Int))).toNat) v0.1.toNat).size+v1.size≤9223372036854775807 then(if(((⟨#[117,103,109]⟩:ByteArray).extract ((aa .i64 (v0.1-(1:Int))).toNat) v0.1.toNat)++v1).size+(⟨#[58]⟩:ByteArray).size≤9223372036854775807 then(bn k v0.2.2).bind fun v2=>
 (if((((⟨#[117,103,109]⟩:ByteArray).extract ((aa .i64 (v0.1-(1:Int))).toNat) v0.1.toNat)++v1)++(⟨#[58]⟩:ByteArray)).size+v2.size≤9223372036854775807 then(if(d.1.length+([(((((⟨#[117,103,109]⟩:ByteArray).extract ((aa .i64 (v0.1-(1:Int))).toNat) v0.1.toNat)++v1)++(⟨#[58]⟩:ByteArray))++v2)]:List ByteArray).length)*16≤au then self ((d.1++([(((((⟨#[117,103,109]⟩:ByteArray).extract ((aa .i64 (v0.1-(1:Int))).toNat) v0.1.toNat)++v1)++(⟨#[58]⟩:ByteArray))++v2)]:List ByteArray)),d.2.1,d.2.2.1,(aa .i64 (d.2.2.2+(1:Int))))else none)else none)else none)else none)else none)else none)else none)else none)else none)else(mA k (d.1,(⟨#[44]⟩:ByteArray))).bind fun v3=>
 some v3)
def uW(k:Nat)(x0:(List aj)):Option ByteArray:=
 (ir k x0).bind fun y1=>
 (bif (!y1)then some (⟨#[]⟩:ByteArray)else(bif ((x0.length:Int)==(0:Int))then some (⟨#[45]⟩:ByteArray)else iter k (gO k) (([]:List ByteArray),x0,(x0.length:Int),(0:Int))))
theorem yz(k:Nat)(x0:(List aj)):iz (k+1) (x0)=uW k x0:=by kernel_rfl
def AG(k:Nat)(x0:(Option bW))(x1:Int):Option ByteArray:=
 (x0).bind fun y1=>
 (if 0≤x1 then(y1.2.2.1[x1.toNat]?).bind fun y2=>
 (o4 (R:=ByteArray) ((bif (y2.1==(2:Int))then some (.inl ((),(⟨#[100,105,114]⟩:ByteArray),y2))else some (.inl ((),(⟨#[102,105,108,101]⟩:ByteArray),y2)))) fun(d3:(Unit×(ByteArray×aE)))=>let e0:=d3.2.2.2.2;(ko k d3.2.2.2.1).bind fun y4=>
 (bn k e0.1).bind fun y5=>
 (bn k e0.2.1).bind fun y6=>
 (bn k e0.2.2.1).bind fun y7=>
 (bn k e0.2.2.2.1).bind fun y8=>
 (bn k e0.2.2.2.2.1).bind fun y9=>
 (iz k e0.2.2.2.2.2.2.1).bind fun y10=>
 (iz k e0.2.2.2.2.2.2.2).bind fun y11=>
 (mA k (([d3.2.1,y4,y5,y6,y7,y8,y9,y10,y11]:List ByteArray),(⟨#[32]⟩:ByteArray))).bind fun y12=>
 some y12)else none)
theorem BZ(k:Nat)(x0:(Option bW))(x1:Int):oJ (k+1) (x0,x1)=AG k x0 x1:=by kernel_rfl
def iO(k:Nat)(self:_→Option (List ByteArray))(d:((List ByteArray)×((List ar)×aI))):=
 (bif (decide (d.2.2.2<d.2.2.1))then(if 0≤d.2.2.2 then(if d.2.2.2<(d.2.1.length:Int)then(d.2.1[d.2.2.2.toNat]?).bind fun v0=>
 (if(d.1.length+([v0.1]:List ByteArray).length)*16≤au then self ((d.1++([v0.1]:List ByteArray)),d.2.1,d.2.2.1,(aa .i64 (d.2.2.2+(1:Int))))else none)else none)else none)else(dG k d.1).bind fun v1=>
 some v1)
def xE(k:Nat)(x0:(Option bW))(x1:Int):Option (List ByteArray):=
 (eL k (x0,x1)).bind fun y1=>
 iter k (iO k) (([]:List ByteArray),y1,(y1.length:Int),(0:Int))
theorem AZ(k:Nat)(x0:(Option bW))(x1:Int):mP (k+1) (x0,x1)=xE k x0 x1:=by kernel_rfl
def l9(k:Nat)(self:_→Option ByteArray)(d:(ByteArray×((List Int)×aI))):=
 (bif (decide (d.2.2.2<d.2.2.1))then(if 0≤d.2.2.2 then((d.1[d.2.2.2.toNat]?.map fun v0=>(v0.toNat:Int))).bind fun v1=>
 (if 0≤(4:Int)then(if 0≤(v1.fdiv (2 ^(min (4:Int).toNat (IntKind.bits .u8))))then(((⟨#[48,49,50,51,52,53,54,55,56,57,97,98,99,100,101,102]⟩:ByteArray)[(v1.fdiv (2 ^(min (4:Int).toNat (IntKind.bits .u8)))).toNat]?.map fun v0=>(v0.toNat:Int))).bind fun v2=>
 (if 0≤d.2.2.2 then((d.1[d.2.2.2.toNat]?.map fun v0=>(v0.toNat:Int))).bind fun v3=>
 (if 0≤(intBits .and .u8 v3 (15:Int))then(((⟨#[48,49,50,51,52,53,54,55,56,57,97,98,99,100,101,102]⟩:ByteArray)[(intBits .and .u8 v3 (15:Int)).toNat]?.map fun v0=>(v0.toNat:Int))).bind fun v4=>
 (if(d.2.1.length+([v2,v4]:List Int).length)*1≤au then self (d.1,(d.2.1++([v2,v4]:List Int)),d.2.2.1,(aa .i64 (d.2.2.2+(1:Int))))else none)else none)else none)else none)else none)else none)else some (ofBytes d.2.1))
def Fz(k:Nat)(x0:ByteArray):Option ByteArray:=
 iter k (l9 k) (x0,([]:List Int),(x0.size:Int),(0:Int))
theorem Fc(k:Nat)(x0:ByteArray):sr (k+1) (x0)=Fz k x0:=by kernel_rfl
def xB(k:Nat)(x0:(Option bW))(x1:Int):Option ByteArray:=
 (js k (x0,x1)).bind fun y1=>
 (bif y1 then(mP k (x0,x1)).bind fun y2=>
 (mA k (y2,(⟨#[44]⟩:ByteArray))).bind fun y3=>
 some y3 else(gz k (x0,x1)).bind fun y4=>
 (sr k y4).bind fun y5=>
 some y5)
theorem zx(k:Nat)(x0:(Option bW))(x1:Int):mN (k+1) (x0,x1)=xB k x0 x1:=by kernel_rfl
def gD(k:Nat)(self:_→Option Int)(d:(Int×((List aE)×aI))):=
 (bif (decide (d.2.2.2<d.2.2.1))then(if 0≤d.2.2.2 then(d.2.1[d.2.2.2.toNat]?).bind fun v0=>
 (bif (v0.1 != (0:Int))then self ((aa .i64 (d.1+(1:Int))),d.2.1,d.2.2.1,(aa .i64 (d.2.2.2+(1:Int))))else self (d.1,d.2.1,d.2.2.1,(aa .i64 (d.2.2.2+(1:Int)))))else none)else some d.1)
def vM(k:Nat)(x0:(Option bW))(x1:Int):Option Int:=
 (x0).bind fun y1=>
 (if 0≤(aa .i64 ((aa .i64 (x1+(1:Int)))*(5:Int)))then(if(aa .i64 ((aa .i64 (x1+(1:Int)))*(5:Int)))≤(y1.2.2.1.length:Int)then(if 0≤(aa .i64 (x1*(5:Int)))then(if(aa .i64 (x1*(5:Int)))≤(((aa .i64 ((aa .i64 (x1+(1:Int)))*(5:Int))).toNat:Nat):Int)then iter k (gD k) ((0:Int),((y1.2.2.1.take ((aa .i64 ((aa .i64 (x1+(1:Int)))*(5:Int))).toNat)).drop ((aa .i64 (x1*(5:Int))).toNat)),((((y1.2.2.1.take ((aa .i64 ((aa .i64 (x1+(1:Int)))*(5:Int))).toNat)).drop ((aa .i64 (x1*(5:Int))).toNat)).length:Nat):Int),(0:Int))else none)else none)else none)else none)
theorem ze(k:Nat)(x0:(Option bW))(x1:Int):lj (k+1) (x0,x1)=vM k x0 x1:=by kernel_rfl
def fF(k:Nat)(self:_→Option (List Int))(d:((List Int)×((List Int)×aI))):=
 (bif (decide (d.2.2.2<d.2.2.1))then(if 0≤d.2.2.2 then(d.2.1[d.2.2.2.toNat]?).bind fun v0=>
 (bif (v0 != (-1:Int))then(if(d.1.length+([v0]:List Int).length)*8≤au then self ((d.1++([v0]:List Int)),d.2.1,d.2.2.1,(aa .i64 (d.2.2.2+(1:Int))))else none)else self (d.1,d.2.1,d.2.2.1,(aa .i64 (d.2.2.2+(1:Int)))))else none)else some d.1)
def sT(k:Nat)(x0:aE):Option (List Int):=
 iter k (fF k) (([]:List Int),x0.2.2.2.2.2.2.2.1,(x0.2.2.2.2.2.2.2.1.length:Int),(0:Int))
theorem wN(k:Nat)(x0:aE):kL (k+1) (x0)=sT k x0:=by kernel_rfl
def iK(k:Nat)(a0:_→Option (List Bool))(self:_→Option (List Bool))(d:((List Bool)×((List aE)×(Int×(Int×((List Int)×aI)))))):=
 let e0:=d.2.2.2.2
 (bif (decide (e0.2.2<e0.2.1))then(if 0≤e0.2.2 then(if e0.2.2<(e0.1.length:Int)then(e0.1[e0.2.2.toNat]?).bind fun v0=>
 (if 0≤v0 then(if v0<(d.1.length:Int)then(d.1[v0.toNat]?).bind fun v1=>
 self ((d.1.set v0.toNat true),d.2.1,d.2.2.1,d.2.2.2.1,e0.1,e0.2.1,(aa .i64 (e0.2.2+(1:Int))))else none)else none)else none)else none)else a0 (d.1,d.2.1,d.2.2.1,(aa .i64 (d.2.2.2.1+(1:Int)))))
def iu(k:Nat)(self:_→Option (List Bool))(d:((List Bool)×((List aE)×aI))):=
 (bif (decide (d.2.2.2<d.2.2.1))then(if 0≤d.2.2.2 then(d.2.1[d.2.2.2.toNat]?).bind fun v0=>
 (kL k v0).bind fun v1=>
 iter k (iK k self) (d.1,d.2.1,d.2.2.1,d.2.2.2,v1,(v1.length:Int),(0:Int))else none)else some d.1)
def xf(k:Nat)(x0:(Option bW)):Option (List Bool):=
 (if 0≤(56:Int)then(if(56:Int)≤(56:Int)then(if(56:Int)*1≤(au:Int)then(x0).bind fun y1=>
 iter k (iu k) ((List.replicate (56:Int).toNat false),y1.2.2.1,(y1.2.2.1.length:Int),(0:Int))else none)else none)else none)
theorem AV(k:Nat)(x0:(Option bW)):nb (k+1) (x0)=xf k x0:=by kernel_rfl
def gK(k:Nat)(a0:Int)(self:_→Option Int)(d:(Int×(Unit×(Int×(Int×(List Bool)))))):=
 (bif (decide (d.2.2.2.1<d.2.2.1))then(if 0≤d.2.2.2.1 then(if d.2.2.2.1<((((aa .i64 ((aa .i64 (a0+(1:Int)))*(14:Int))).toNat-(aa .i64 (a0*(14:Int))).toNat):Nat):Int)then(d.2.2.2.2[((aa .i64 (a0*(14:Int))).toNat+d.2.2.2.1.toNat)]?).bind fun v0=>
 (bif v0 then(if(aa .i64 (a0*(14:Int))).toNat=(aa .i64 (a0*(14:Int))).toNat∧((aa .i64 ((aa .i64 (a0+(1:Int)))*(14:Int))).toNat-(aa .i64 (a0*(14:Int))).toNat)=((aa .i64 ((aa .i64 (a0+(1:Int)))*(14:Int))).toNat-(aa .i64 (a0*(14:Int))).toNat)then self ((aa .i64 (d.1+(1:Int))),(),d.2.2.1,(aa .i64 (d.2.2.2.1+(1:Int))),d.2.2.2.2)else none)else(if(aa .i64 (a0*(14:Int))).toNat=(aa .i64 (a0*(14:Int))).toNat∧((aa .i64 ((aa .i64 (a0+(1:Int)))*(14:Int))).toNat-(aa .i64 (a0*(14:Int))).toNat)=((aa .i64 ((aa .i64 (a0+(1:Int)))*(14:Int))).toNat-(aa .i64 (a0*(14:Int))).toNat)then self (d.1,(),d.2.2.1,(aa .i64 (d.2.2.2.1+(1:Int))),d.2.2.2.2)else none))else none)else none)else some d.1)
def vy(k:Nat)(x0:(Option bW))(x1:Int):Option Int:=
 (nb k x0).bind fun y1=>
 (if 0≤(aa .i64 ((aa .i64 (x1+(1:Int)))*(14:Int)))then(if(aa .i64 ((aa .i64 (x1+(1:Int)))*(14:Int)))≤(y1.length:Int)then(if 0≤(aa .i64 (x1*(14:Int)))then(if(aa .i64 (x1*(14:Int)))≤(((aa .i64 ((aa .i64 (x1+(1:Int)))*(14:Int))).toNat:Nat):Int)then(if(aa .i64 (x1*(14:Int))).toNat=(aa .i64 (x1*(14:Int))).toNat∧((aa .i64 ((aa .i64 (x1+(1:Int)))*(14:Int))).toNat-(aa .i64 (x1*(14:Int))).toNat)=((aa .i64 ((aa .i64 (x1+(1:Int)))*(14:Int))).toNat-(aa .i64 (x1*(14:Int))).toNat)then iter k (gK k x1) ((0:Int),(),((((aa .i64 ((aa .i64 (x1+(1:Int)))*(14:Int))).toNat-(aa .i64 (x1*(14:Int))).toNat):Nat):Int),(0:Int),y1)else none)else none)else none)else none)else none)
theorem yU(k:Nat)(x0:(Option bW))(x1:Int):k9 (k+1) (x0,x1)=vy k x0 x1:=by kernel_rfl
def kj(k:Nat)(x0:bW)(x1:Int):Option ByteArray:=
 (fy k x0).bind fun y1=>
 (bif (!y1)then some (⟨#[]⟩:ByteArray)else(bT k x1).bind fun y2=>
 (bif (!y2)then some (⟨#[]⟩:ByteArray)else(lj k ((some x0),x1)).bind fun y3=>
 (bn k y3).bind fun y4=>
 (if y4.size+(⟨#[47]⟩:ByteArray).size≤9223372036854775807 then(if 0≤x1 then(x0.2.1[x1.toNat]?).bind fun y5=>
 (bn k y5.1).bind fun y6=>
 (if(y4++(⟨#[47]⟩:ByteArray)).size+y6.size≤9223372036854775807 then(if((y4++(⟨#[47]⟩:ByteArray))++y6).size+(⟨#[32]⟩:ByteArray).size≤9223372036854775807 then(k9 k ((some x0),x1)).bind fun y7=>
 (bn k y7).bind fun y8=>
 (if(((y4++(⟨#[47]⟩:ByteArray))++y6)++(⟨#[32]⟩:ByteArray)).size+y8.size≤9223372036854775807 then(if((((y4++(⟨#[47]⟩:ByteArray))++y6)++(⟨#[32]⟩:ByteArray))++y8).size+(⟨#[47]⟩:ByteArray).size≤9223372036854775807 then(if 0≤x1 then(x0.2.1[x1.toNat]?).bind fun y9=>
 (bn k y9.2).bind fun y10=>
 (if(((((y4++(⟨#[47]⟩:ByteArray))++y6)++(⟨#[32]⟩:ByteArray))++y8)++(⟨#[47]⟩:ByteArray)).size+y10.size≤9223372036854775807 then some ((((((y4++(⟨#[47]⟩:ByteArray))++y6)++(⟨#[32]⟩:ByteArray))++y8)++(⟨#[47]⟩:ByteArray))++y10)else none)else none)else none)else none)else none)else none)else none)else none)))
theorem jx(k:Nat)(x0:bW)(x1:Int):iM (k+1) (x0,x1)=kj k x0 x1:=by kernel_rfl
def gU(k:Nat)(self:_→Option (List ByteArray))(d:(Unit×(Unit×((List ByteArray)×((List Int)×(Int×(Int×(aS×bW)))))))):=
 let e0:=d.2.2.2.2
 (bif (decide (e0.2.1<e0.1))then(if 0≤e0.2.1 then(if e0.2.1<(d.2.2.2.1.length:Int)then(d.2.2.2.1[e0.2.1.toNat]?).bind fun v0=>
 (bn k v0).bind fun v1=>
 (if v1.size+(⟨#[32]⟩:ByteArray).size≤9223372036854775807 then(oJ k ((some e0.2.2.2),v0)).bind fun v2=>
 (if(v1++(⟨#[32]⟩:ByteArray)).size+v2.size≤9223372036854775807 then(jb k ((some e0.2.2.2),e0.2.2.1,v0,(4:Int))).bind fun v3=>
 (bif v3 then(mN k ((some e0.2.2.2),v0)).bind fun v4=>
 (if(⟨#[32]⟩:ByteArray).size+v4.size≤9223372036854775807 then(if((v1++(⟨#[32]⟩:ByteArray))++v2).size+((⟨#[32]⟩:ByteArray)++v4).size≤9223372036854775807 then(if(d.2.2.1.length+([(((v1++(⟨#[32]⟩:ByteArray))++v2)++((⟨#[32]⟩:ByteArray)++v4))]:List ByteArray).length)*16≤au then self ((),(),(d.2.2.1++([(((v1++(⟨#[32]⟩:ByteArray))++v2)++((⟨#[32]⟩:ByteArray)++v4))]:List ByteArray)),d.2.2.2.1,e0.1,(aa .i64 (e0.2.1+(1:Int))),e0.2.2.1,e0.2.2.2)else none)else none)else none)else(if(d.2.2.1.length+([((v1++(⟨#[32]⟩:ByteArray))++v2)]:List ByteArray).length)*16≤au then self ((),(),(d.2.2.1++([((v1++(⟨#[32]⟩:ByteArray))++v2)]:List ByteArray)),d.2.2.2.1,e0.1,(aa .i64 (e0.2.1+(1:Int))),e0.2.2.1,e0.2.2.2)else none))else none)else none)else none)else none)else(iM k (e0.2.2.2,e0.2.2.1.1)).bind fun v5=>
 (if(⟨#[117,115,97,103,101,32]⟩:ByteArray).size+v5.size≤9223372036854775807 then(if(d.2.2.1.length+([((⟨#[117,115,97,103,101,32]⟩:ByteArray)++v5)]:List ByteArray).length)*16≤au then some (d.2.2.1++([((⟨#[117,115,97,103,101,32]⟩:ByteArray)++v5)]:List ByteArray))else none)else none))
def vq(k:Nat)(x0:bW)(x1:aS):Option (List ByteArray):=
 (fy k x0).bind fun y1=>
 (bif (!y1)then some ([]:List ByteArray)else(eT k x1).bind fun y2=>
 (bif (!y2)then some ([]:List ByteArray)else(gZ k (x0,x1)).bind fun y3=>
 iter k (gU k) ((),(),([]:List ByteArray),y3,(y3.length:Int),(0:Int),x1,x0)))
theorem s7(k:Nat)(x0:bW)(x1:aS):lT (k+1) (x0,x1)=vq k x0 x1:=by kernel_rfl
def cp(k:Nat)(self:_→Option Bool)(d:((List ByteArray)×((List ByteArray)×aI))):=
 (bif (decide (d.2.2.2<d.2.2.1))then(if 0≤d.2.2.2 then(d.1[d.2.2.2.toNat]?).bind fun v0=>
 (if 0≤d.2.2.2 then(d.2.1[d.2.2.2.toNat]?).bind fun v1=>
 (bif (!(Cl v0 v1))then some false else self (d.1,d.2.1,d.2.2.1,(aa .i64 (d.2.2.2+(1:Int)))))else none)else none)else some true)
def gY(k:Nat)(x0:(List ByteArray))(x1:(List ByteArray)):Option Bool:=
 (bif ((x0.length:Int) != (x1.length:Int))then some false else iter k (cp k) (x0,x1,(x0.length:Int),(0:Int)))
theorem ly(k:Nat)(x0:(List ByteArray))(x1:(List ByteArray)):dq (k+1) (x0,x1)=gY k x0 x1:=by kernel_rfl
def yh(k:Nat)(x0:bW)(x1:bW)(x2:aS):Option Bool:=
 (fy k x0).bind fun y1=>
 (bif y1 then(fy k x1).bind fun y2=>
 (bif y2 then(eT k x2).bind fun y3=>
 (bif y3 then(lT k (x0,x2)).bind fun y4=>
 (lT k (x1,x2)).bind fun y5=>
 (dq k (y4,y5)).bind fun y6=>
 some y6 else some false)else some false)else some false)
theorem zz(k:Nat)(x0:bW)(x1:bW)(x2:aS):mJ (k+1) (x0,x1,x2)=yh k x0 x1 x2:=by kernel_rfl
def mC(k:Nat)(x0:bW)(x1:bW)(x2:aS):Option Bool:=
 (oO k (x0,(1048576:Int))).bind fun y1=>
 (bif (decide (y1<(0:Int)))then some true else(oO k (x1,y1)).bind fun y2=>
 (bif (decide (y2<(0:Int)))then some true else(pS k (x2,y2)).bind fun y3=>
 (bif (decide (y3<(0:Int)))then some true else(fA k x0).bind fun y4=>
 (fA k x1).bind fun y5=>
 (iX k x2).bind fun y6=>
 (mQ k (y4,y5,y6)).bind fun y7=>
 (fA k x0).bind fun y8=>
 (fA k x1).bind fun y9=>
 (iX k x2).bind fun y10=>
 (mJ k (y8,y9,y10)).bind fun y11=>
 (bif (y11 != y7)then some false else(fA k x0).bind fun y12=>
 (pC k (y8,y12)).bind fun y13=>
 (bif (!y13)then some false else(fA k x1).bind fun y14=>
 (pC k (y9,y14)).bind fun y15=>
 (bif (!y15)then some false else(iX k x2).bind fun y16=>
 (pZ k (y10,y16)).bind fun y17=>
 (bif (!y17)then some false else some true)))))))
theorem pQ(k:Nat)(x0:bW)(x1:bW)(x2:aS):ky (k+1) (x0,x1,x2)=mC k x0 x1 x2:=by kernel_rfl
end
end Go.Proofs.YtkdcfeopelbojaaGreatDoor
