/- The tables, the residual functions and lemmas of this seat: parts of the proof of the law; conditions: those that each names. -/
import Derived.Test.YtkdcfeopelbojaaGreatDoorTab
set_option maxRecDepth 100000
set_option maxHeartbeats 0
set_option linter.unusedVariables false
namespace Go.Proofs.YtkdcfeopelbojaaGreatDoor
open Go.Eng
noncomputable section
def yl(k:Nat)(x0:(List aF))(x1:Int):Option Int:=
 (bif (decide ((aa .i64 (x1-(x0.length:Int)))<(0:Int)))then some (-1:Int)else some (aa .i64 (x1-(x0.length:Int))))
theorem BL(k:Nat)(x0:(List aF))(x1:Int):nr (k+1) (x0,x1)=yl k x0 x1:=by kernel_rfl
def DW(k:Nat)(x0:(List Int))(x1:Int):Option Int:=
 (bif (decide ((aa .i64 (x1-(x0.length:Int)))<(0:Int)))then some (-1:Int)else some (aa .i64 (x1-(x0.length:Int))))
theorem D6(k:Nat)(x0:(List Int))(x1:Int):l7 (k+1) (x0,x1)=DW k x0 x1:=by kernel_rfl
def qD(k:Nat)(x0:(List aj))(x1:Int):Option Int:=
 (bif (decide ((aa .i64 (x1-(x0.length:Int)))<(0:Int)))then some (-1:Int)else some (aa .i64 (x1-(x0.length:Int))))
theorem u4(k:Nat)(x0:(List aj))(x1:Int):fU (k+1) (x0,x1)=qD k x0 x1:=by kernel_rfl
def AP(k:Nat)(x0:aA)(x1:Int):Option Int:=
 (l7 k (x0.2.2.2.2.2.2.2.1,x1)).bind fun y1=>
 (bif (decide (y1<(0:Int)))then some (-1:Int)else(fU k (x0.2.2.2.2.2.2.2.2.1,y1)).bind fun y2=>
 (bif (decide (y2<(0:Int)))then some (-1:Int)else(fU k (x0.2.2.2.2.2.2.2.2.2,y2)).bind fun y3=>
 (bif (decide (y3<(0:Int)))then some (-1:Int)else some y3)))
theorem Cs(k:Nat)(x0:aA)(x1:Int):ix (k+1) (x0,x1)=AP k x0 x1:=by kernel_rfl
def qM(k:Nat)(self:_→Option Int)(d:((List aA)×aF)):=
 (bif (decide (d.2.2<(d.1.length:Int)))then(if 0≤d.2.2 then(d.1[d.2.2.toNat]?).bind fun v0=>
 (ix k (v0,d.2.1)).bind fun v1=>
 (bif (decide (v1<(0:Int)))then some (-1:Int)else self (d.1,v1,(aa .i64 (d.2.2+(1:Int)))))else none)else some d.2.1)
def yw(k:Nat)(x0:(List aA))(x1:Int):Option Int:=
 (bif (decide ((aa .i64 (x1-(x0.length:Int)))<(0:Int)))then some (-1:Int)else iter k (qM k) (x0,(aa .i64 (x1-(x0.length:Int))),(0:Int)))
theorem Bt(k:Nat)(x0:(List aA))(x1:Int):nB (k+1) (x0,x1)=yw k x0 x1:=by kernel_rfl
def pJ(k:Nat)(self:_→Option Int)(d:((List ByteArray)×aF)):=
 (bif (decide (d.2.2<(d.1.length:Int)))then(if 0≤d.2.2 then(d.1[d.2.2.toNat]?).bind fun v0=>
 (bif (decide ((aa .i64 (d.2.1-(v0.size:Int)))<(0:Int)))then some (-1:Int)else self (d.1,(aa .i64 (d.2.1-(v0.size:Int))),(aa .i64 (d.2.2+(1:Int)))))else none)else some d.2.1)
def vm(k:Nat)(x0:(List ByteArray))(x1:Int):Option Int:=
 (bif (decide ((aa .i64 (x1-(x0.length:Int)))<(0:Int)))then some (-1:Int)else iter k (pJ k) (x0,(aa .i64 (x1-(x0.length:Int))),(0:Int)))
theorem zR(k:Nat)(x0:(List ByteArray))(x1:Int):lK (k+1) (x0,x1)=vm k x0 x1:=by kernel_rfl
def Ib(k:Nat)(x0:ck)(x1:Int):Option Int:=
 (nr k (x0.2.1,x1)).bind fun y1=>
 (bif (decide (y1<(0:Int)))then some (-1:Int)else(nB k (x0.2.2.1,y1)).bind fun y2=>
 (bif (decide (y2<(0:Int)))then some (-1:Int)else(lK k (x0.2.2.2,y2)).bind fun y3=>
 (bif (decide (y3<(0:Int)))then some (-1:Int)else some y3)))
theorem HO(k:Nat)(x0:ck)(x1:Int):vJ (k+1) (x0,x1)=Ib k x0 x1:=by kernel_rfl
def Dm(k:Nat)(x0:aT)(x1:Int):Option Int:=
 (l7 k (x0.2.2,x1)).bind fun y1=>
 (bif (decide (y1<(0:Int)))then some (-1:Int)else some y1)
theorem D9(k:Nat)(x0:aT)(x1:Int):qm (k+1) (x0,x1)=Dm k x0 x1:=by kernel_rfl
def FD(k:Nat)(x0:Int)(x1:Int)(x2:Int):Option Bool:=
 (bif (decide (x1≤x0))then some (decide (x0≤x2))else some false)
theorem Fm(k:Nat)(x0:Int)(x1:Int)(x2:Int):aQ (k+1) (x0,x1,x2)=FD k x0 x1 x2:=by kernel_rfl
def AW(k:Nat)(x0:Int):Option Bool:=
 (aQ k (x0,(0:Int),(3:Int))).bind fun y1=>
 some y1
theorem CK(k:Nat)(x0:Int):bD (k+1) (x0)=AW k x0:=by kernel_rfl
def jz(k:Nat)(self:_→Option Bool)(d:((List Int)×((List Int)×aF))):=
 (bif (decide (d.2.2.2<d.2.2.1))then(if 0≤d.2.2.2 then(d.2.1[d.2.2.2.toNat]?).bind fun v0=>
 (if 0≤d.2.2.2 then(d.1[d.2.2.2.toNat]?).bind fun v1=>
 (bif (v0 != v1)then some false else self (d.1,d.2.1,d.2.2.1,(aa .i64 (d.2.2.2+(1:Int)))))else none)else none)else some true)
def Ar(k:Nat)(x0:(List Int))(x1:(List Int)):Option Bool:=
 (bif ((x0.length:Int) != (x1.length:Int))then some false else iter k (jz k) (x1,x0,(x0.length:Int),(0:Int)))
theorem Cg(k:Nat)(x0:(List Int))(x1:(List Int)):n7 (k+1) (x0,x1)=Ar k x0 x1:=by kernel_rfl
def jE(k:Nat)(self:_→Option Bool)(d:((List aj)×((List aj)×aF))):=
 (bif (decide (d.2.2.2<d.2.2.1))then(if 0≤d.2.2.2 then(d.2.1[d.2.2.2.toNat]?).bind fun v0=>
 (if 0≤d.2.2.2 then(d.1[d.2.2.2.toNat]?).bind fun v1=>
 (bif (!((v0.1==v1.1)&&((v0.2.1==v1.2.1)&&(v0.2.2==v1.2.2))))then some false else self (d.1,d.2.1,d.2.2.1,(aa .i64 (d.2.2.2+(1:Int)))))else none)else none)else some true)
def Bg(k:Nat)(x0:(List aj))(x1:(List aj)):Option Bool:=
 (bif ((x0.length:Int) != (x1.length:Int))then some false else iter k (jE k) (x1,x0,(x0.length:Int),(0:Int)))
theorem Cr(k:Nat)(x0:(List aj))(x1:(List aj)):kB (k+1) (x0,x1)=Bg k x0 x1:=by kernel_rfl
def vU(k:Nat)(x0:aA)(x1:aA):Option Bool:=
 (bif (x0.1 != x1.1)then some false else(bif (x0.2.1 != x1.2.1)then some false else(bif (x0.2.2.1 != x1.2.2.1)then some false else(bif (x0.2.2.2.1 != x1.2.2.2.1)then some false else(bif (x0.2.2.2.2.1 != x1.2.2.2.2.1)then some false else(bif (x0.2.2.2.2.2.1 != x1.2.2.2.2.2.1)then some false else(bif (x0.2.2.2.2.2.2.1 != x1.2.2.2.2.2.2.1)then some false else(n7 k (x0.2.2.2.2.2.2.2.1,x1.2.2.2.2.2.2.2.1)).bind fun y1=>
 (bif y1 then(kB k (x0.2.2.2.2.2.2.2.2.1,x1.2.2.2.2.2.2.2.2.1)).bind fun y2=>
 (bif y2 then(kB k (x0.2.2.2.2.2.2.2.2.2,x1.2.2.2.2.2.2.2.2.2)).bind fun y3=>
 some y3 else some false)else some false))))))))
theorem zo(k:Nat)(x0:aA)(x1:aA):lE (k+1) (x0,x1)=vU k x0 x1:=by kernel_rfl
def Bs(k:Nat)(x0:Int):Option Bool:=
 (aQ k (x0,(0:Int),(2047:Int))).bind fun y1=>
 some y1
theorem Cw(k:Nat)(x0:Int):de (k+1) (x0)=Bs k x0:=by kernel_rfl
def pP(k:Nat)(x0:Int):Option Int:=
 (bif (decide (x0≤(0:Int)))then some (0:Int)else(if((32:Int):Int)≠0 then some (aa .i64 ((aa .i64 ((aa .i64 (x0-(1:Int))).tdiv (32:Int)))+(1:Int)))else none))
theorem uy(k:Nat)(x0:Int):dA (k+1) (x0)=pP k x0:=by kernel_rfl
def kM(k:Nat)(self:_→Option Bool)(d:(Int×((List Int)×aF))):=
 (bif (decide (d.2.2.2<d.2.2.1))then(if 0≤d.2.2.2 then(d.2.1[d.2.2.2.toNat]?).bind fun v0=>
 (bif (v0==d.1)then some true else self (d.1,d.2.1,d.2.2.1,(aa .i64 (d.2.2.2+(1:Int)))))else none)else some false)
def Da(k:Nat)(x0:(List Int))(x1:Int):Option Bool:=
 iter k (kM k) (x1,x0,(x0.length:Int),(0:Int))
theorem D4(k:Nat)(x0:(List Int))(x1:Int):mf (k+1) (x0,x1)=Da k x0 x1:=by kernel_rfl
def xQ(k:Nat)(x0:aj):Option Bool:=
 (aQ k (x0.2.2,(0:Int),(7:Int))).bind fun y1=>
 (bif (!y1)then some false else(bif (x0.1==(1:Int))then(bif (x0.1==(1:Int))then(aQ k (x0.2.1,(0:Int),(3:Int))).bind fun y2=>
 some y2 else(bif (x0.1==(3:Int))then some (x0.2.1==(0:Int))else some false))else(bif (x0.1==(2:Int))then(aQ k (x0.2.1,(0:Int),(3:Int))).bind fun y3=>
 some y3 else(bif (x0.1==(3:Int))then some (x0.2.1==(0:Int))else some false))))
theorem Af(k:Nat)(x0:aj):nv (k+1) (x0)=xQ k x0:=by kernel_rfl
def mg(k:Nat)(self:_→Option Bool)(d:((List aj)×((List aj)×aF))):=
 (bif (decide (d.2.2.2<d.2.2.1))then(if 0≤d.2.2.2 then(d.2.1[d.2.2.2.toNat]?).bind fun v0=>
 (nv k v0).bind fun v1=>
 (bif (!v1)then some false else(bif (decide ((0:Int)<d.2.2.2))then(if 0≤(aa .i64 (d.2.2.2-(1:Int)))then(d.1[(aa .i64 (d.2.2.2-(1:Int))).toNat]?).bind fun v2=>
 (bif (decide (v0.1<v2.1))then some false else(if 0≤(aa .i64 (d.2.2.2-(1:Int)))then(d.1[(aa .i64 (d.2.2.2-(1:Int))).toNat]?).bind fun v3=>
 (bif (v3.1==v0.1)then(if 0≤(aa .i64 (d.2.2.2-(1:Int)))then(d.1[(aa .i64 (d.2.2.2-(1:Int))).toNat]?).bind fun v4=>
 (bif (decide (v0.2.1≤v4.2.1))then some false else self (d.1,d.2.1,d.2.2.1,(aa .i64 (d.2.2.2+(1:Int)))))else none)else self (d.1,d.2.1,d.2.2.1,(aa .i64 (d.2.2.2+(1:Int)))))else none))else none)else self (d.1,d.2.1,d.2.2.1,(aa .i64 (d.2.2.2+(1:Int))))))else none)else(bif ((d.1.length:Int)==(0:Int))then some true else(bif (decide ((d.1.length:Int)≤(6:Int)))then(if 0≤(aa .i64 ((d.1.length:Int)-(1:Int)))then(d.1[(aa .i64 ((d.1.length:Int)-(1:Int))).toNat]?).bind fun v5=>
 some (v5.1==(3:Int))else none)else some false)))
def Ga(k:Nat)(x0:(List aj)):Option Bool:=
 iter k (mg k) (x0,x0,(x0.length:Int),(0:Int))
theorem GK(k:Nat)(x0:(List aj)):iY (k+1) (x0)=Ga k x0:=by kernel_rfl
def jG(k:Nat)(self:_→Option Bool)(d:(Unit×((List Int)×(Int×(Int×aA))))):=
 let e0:=d.2.2.2.2
 (bif (decide (d.2.2.2.1<d.2.2.1))then(if 0≤d.2.2.2.1 then(d.2.1[d.2.2.2.1.toNat]?).bind fun v0=>
 (aQ k (v0,(-1:Int),(999:Int))).bind fun v1=>
 (bif (!v1)then some false else(bif (v0 != (-1:Int))then(if 0≤d.2.2.2.1 then(if d.2.2.2.1≤(e0.2.2.2.2.2.2.2.1.length:Int)then(mf k (((e0.2.2.2.2.2.2.2.1.take d.2.2.2.1.toNat).drop 0),v0)).bind fun v2=>
 (bif v2 then some false else self ((),d.2.1,d.2.2.1,(aa .i64 (d.2.2.2.1+(1:Int))),e0))else none)else none)else self ((),d.2.1,d.2.2.1,(aa .i64 (d.2.2.2.1+(1:Int))),e0)))else none)else(oY (R:=Bool) ((bif (e0.1==(1:Int))then(bif (decide ((0:Int)<(e0.2.2.2.2.2.2.2.2.2.length:Int)))then((some false).map .inr)else(bif ((intBits .and .i64 e0.2.1 (512:Int)) != (0:Int))then((some false).map .inr)else some (.inl ((),e0))))else some (.inl ((),e0)))) fun(v3:(Unit×aA))=>(iY k v3.2.2.2.2.2.2.2.2.2.1).bind fun v4=>
 (bif v4 then(iY k v3.2.2.2.2.2.2.2.2.2.2).bind fun v5=>
 some v5 else some false)))
def Ac(k:Nat)(x0:aA):Option Bool:=
 (bif (x0.1==(0:Int))then(lE k (x0,((0:Int),(0:Int),(0:Int),(0:Int),(0:Int),(0:Int),(0:Int),([]:List Int),([]:List aj),([]:List aj)))).bind fun y1=>
 some y1 else(oY (R:=Bool) ((bif (x0.1 != (1:Int))then(bif (x0.1 != (2:Int))then((some false).map .inr)else(de k x0.2.1).bind fun y3=>
 (bif (!y3)then((some false).map .inr)else(bD k x0.2.2.1).bind fun y4=>
 (bif (!y4)then((some false).map .inr)else(bD k x0.2.2.2.1).bind fun y5=>
 (bif (!y5)then((some false).map .inr)else(aQ k (x0.2.2.2.2.1,(0:Int),(1000:Int))).bind fun y6=>
 (bif (!y6)then((some false).map .inr)else(aQ k (x0.2.2.2.2.2.1,(0:Int),(256:Int))).bind fun y7=>
 (bif (!y7)then((some false).map .inr)else(aQ k (x0.2.2.2.2.2.2.1,(0:Int),(1000000000:Int))).bind fun y8=>
 (bif (!y8)then((some false).map .inr)else(dA k x0.2.2.2.2.2.1).bind fun y9=>
 (bif ((x0.2.2.2.2.2.2.2.1.length:Int) != y9)then((some false).map .inr)else some (.inl ((),x0))))))))))else(de k x0.2.1).bind fun y10=>
 (bif (!y10)then((some false).map .inr)else(bD k x0.2.2.1).bind fun y11=>
 (bif (!y11)then((some false).map .inr)else(bD k x0.2.2.2.1).bind fun y12=>
 (bif (!y12)then((some false).map .inr)else(aQ k (x0.2.2.2.2.1,(0:Int),(1000:Int))).bind fun y13=>
 (bif (!y13)then((some false).map .inr)else(aQ k (x0.2.2.2.2.2.1,(0:Int),(256:Int))).bind fun y14=>
 (bif (!y14)then((some false).map .inr)else(aQ k (x0.2.2.2.2.2.2.1,(0:Int),(1000000000:Int))).bind fun y15=>
 (bif (!y15)then((some false).map .inr)else(dA k x0.2.2.2.2.2.1).bind fun y16=>
 (bif ((x0.2.2.2.2.2.2.2.1.length:Int) != y16)then((some false).map .inr)else some (.inl ((),x0))))))))))) fun(d2:(Unit×aA))=>iter k (jG k) ((),d2.2.2.2.2.2.2.2.2.1,(d2.2.2.2.2.2.2.2.2.1.length:Int),(0:Int),d2.2)))
theorem CH(k:Nat)(x0:aA):ov (k+1) (x0)=Ac k x0:=by kernel_rfl
def tK(k:Nat)(x0:Int):Option Int:=
 (aQ k (x0,(0:Int),(55:Int))).bind fun y1=>
 (bif (!y1)then some (-1:Int)else(if((14:Int):Int)≠0 then some (aa .i64 (x0.tdiv (14:Int)))else none))
theorem xE(k:Nat)(x0:Int):gJ (k+1) (x0)=tK k x0:=by kernel_rfl
def gd(k:Nat)(a0:_→Option ((List Bool)×Bool))(self:_→Option ((List Bool)×Bool))(d:((List Bool)×(Unit×((List aA)×(Int×(Int×((List Int)×(Int×(Int×aA))))))))):=
 let e0:=d.2.2.2.2
 (bif (decide (e0.2.2.2.1<e0.2.2.1))then(if 0≤e0.2.2.2.1 then(e0.2.1[e0.2.2.2.1.toNat]?).bind fun v0=>
 (bif (v0==(-1:Int))then self (d.1,(),d.2.2.1,d.2.2.2.1,e0.1,e0.2.1,e0.2.2.1,(aa .i64 (e0.2.2.2.1+(1:Int))),e0.2.2.2.2)else(gJ k v0).bind fun v1=>
 (bif (v1 != e0.2.2.2.2.2.2.1)then some (([]:List Bool),false)else(if 0≤v0 then(if v0<(d.1.length:Int)then(d.1[v0.toNat]?).bind fun v2=>
 (bif v2 then some (([]:List Bool),false)else(if 0≤v0 then(if v0<(d.1.length:Int)then(d.1[v0.toNat]?).bind fun v3=>
 self ((d.1.set v0.toNat true),(),d.2.2.1,d.2.2.2.1,e0.1,e0.2.1,e0.2.2.1,(aa .i64 (e0.2.2.2.1+(1:Int))),e0.2.2.2.2)else none)else none))else none)else none)))else none)else a0 (d.1,d.2.2.1,d.2.2.2.1,(aa .i64 (e0.1+(1:Int)))))
def jy(k:Nat)(self:_→Option ((List Bool)×Bool))(d:((List Bool)×((List aA)×aF))):=
 (bif (decide (d.2.2.2<d.2.2.1))then(if 0≤d.2.2.2 then(d.2.1[d.2.2.2.toNat]?).bind fun v0=>
 iter k (gd k self) (d.1,(),d.2.1,d.2.2.1,d.2.2.2,v0.2.2.2.2.2.2.2.1,(v0.2.2.2.2.2.2.2.1.length:Int),(0:Int),v0)else none)else some (d.1,true))
def A4(k:Nat)(x0:ck):Option ((List Bool)×Bool):=
 (if 0≤(56:Int)then(if(56:Int)≤(56:Int)then(if(56:Int)*1≤(au:Int)then iter k (jy k) ((List.replicate (56:Int).toNat false),x0.2.2.1,(x0.2.2.1.length:Int),(0:Int))else none)else none)else none)
theorem CT(k:Nat)(x0:ck):oU (k+1) (x0)=A4 k x0:=by kernel_rfl
def iE(k:Nat)(self:_→Option Bool)(d:ar):=
 (bif (decide (d.2<(d.1.size:Int)))then(if 0≤d.2 then((d.1[d.2.toNat]?.map fun v0=>(v0.toNat:Int))).bind fun v1=>
 (bif (v1 != (0:Int))then some false else self (d.1,(aa .i64 (d.2+(1:Int)))))else none)else some true)
def yb(k:Nat)(x0:ByteArray):Option Bool:=
 iter k (iE k) (x0,(0:Int))
theorem Bw(k:Nat)(x0:ByteArray):jD (k+1) (x0)=yb k x0:=by kernel_rfl
def iz(k:Nat)(self:_→Option Bool)(d:(Unit×((List aA)×(Int×(Int×ck))))):=
 let e0:=d.2.2.2.2
 (bif (decide (d.2.2.2.1<d.2.2.1))then(if 0≤d.2.2.2.1 then(d.2.1[d.2.2.2.1.toNat]?).bind fun v0=>
 (bif (decide ((0:Int)≤(aa .i64 ((v0.2.2.2.2.2.2.2.1.length:Int)-(1:Int)))))then(if 0≤(aa .i64 ((v0.2.2.2.2.2.2.2.1.length:Int)-(1:Int)))then(v0.2.2.2.2.2.2.2.1[(aa .i64 ((v0.2.2.2.2.2.2.2.1.length:Int)-(1:Int))).toNat]?).bind fun v1=>
 (bif (v1 != (-1:Int))then(if 0≤(aa .i64 ((v0.2.2.2.2.2.2.2.1.length:Int)-(1:Int)))then(v0.2.2.2.2.2.2.2.1[(aa .i64 ((v0.2.2.2.2.2.2.2.1.length:Int)-(1:Int))).toNat]?).bind fun v2=>
 (if 0≤v2 then(e0.2.2.2[v2.toNat]?).bind fun v3=>
 (if 0≤(aa .i64 (v0.2.2.2.2.2.1-(aa .i64 ((aa .i64 ((v0.2.2.2.2.2.2.2.1.length:Int)-(1:Int)))*(32:Int)))))then(if(aa .i64 (v0.2.2.2.2.2.1-(aa .i64 ((aa .i64 ((v0.2.2.2.2.2.2.2.1.length:Int)-(1:Int)))*(32:Int)))))≤(v3.size:Int)then(jD k (v3.extract ((aa .i64 (v0.2.2.2.2.2.1-(aa .i64 ((aa .i64 ((v0.2.2.2.2.2.2.2.1.length:Int)-(1:Int)))*(32:Int))))).toNat) v3.size)).bind fun v4=>
 (bif (!v4)then some false else self ((),d.2.1,d.2.2.1,(aa .i64 (d.2.2.2.1+(1:Int))),e0))else none)else none)else none)else none)else self ((),d.2.1,d.2.2.1,(aa .i64 (d.2.2.2.1+(1:Int))),e0))else none)else self ((),d.2.1,d.2.2.1,(aa .i64 (d.2.2.2.1+(1:Int))),e0))else none)else some true)
def iS(k:Nat)(self:_→Option Bool)(d:(Unit×((List Bool)×((List ByteArray)×(Int×(Int×ck)))))):=
 let e0:=d.2.2.2.2
 (bif (decide (e0.1<d.2.2.2.1))then(if 0≤e0.1 then(d.2.2.1[e0.1.toNat]?).bind fun v0=>
 (bif ((v0.size:Int) != (32:Int))then some false else(if 0≤e0.1 then(if e0.1<(d.2.1.length:Int)then(d.2.1[e0.1.toNat]?).bind fun v1=>
 (bif (!v1)then(jD k v0).bind fun v2=>
 (bif (!v2)then some false else self ((),d.2.1,d.2.2.1,d.2.2.2.1,(aa .i64 (e0.1+(1:Int))),e0.2))else self ((),d.2.1,d.2.2.1,d.2.2.2.1,(aa .i64 (e0.1+(1:Int))),e0.2))else none)else none))else none)else iter k (iz k) ((),e0.2.2.2.1,(e0.2.2.2.1.length:Int),(0:Int),e0.2))
def iM(k:Nat)(self:_→Option Bool)(d:(Unit×((List aA)×(Int×(Int×ck))))):=
 let e0:=d.2.2.2.2
 (bif (decide (d.2.2.2.1<d.2.2.1))then(if 0≤d.2.2.2.1 then(d.2.1[d.2.2.2.1.toNat]?).bind fun v0=>
 (ov k v0).bind fun v1=>
 (bif (!v1)then some false else self ((),d.2.1,d.2.2.1,(aa .i64 (d.2.2.2.1+(1:Int))),e0))else none)else(if 0≤(0:Int)then(e0.2.2.1[(0:Int).toNat]?).bind fun v2=>
 (bif (v2.1 != (2:Int))then some false else(oU k e0).bind fun v3=>
 (bif (!v3.2)then some false else iter k (iS k) ((),v3.1,e0.2.2.2,(e0.2.2.2.length:Int),(0:Int),e0)))else none))
def nN(k:Nat)(self:_→Option Bool)(d:(Unit×((List aF)×(Int×(Int×ck))))):=
 let e0:=d.2.2.2.2
 (bif (decide (d.2.2.2.1<d.2.2.1))then(if 0≤d.2.2.2.1 then(d.2.1[d.2.2.2.1.toNat]?).bind fun v0=>
 (aQ k (v0.1,(0:Int),(5:Int))).bind fun v1=>
 (bif (!v1)then some false else(aQ k (v0.2,(0:Int),(14:Int))).bind fun v2=>
 (bif (!v2)then some false else self ((),d.2.1,d.2.2.1,(aa .i64 (d.2.2.2.1+(1:Int))),e0)))else none)else iter k (iM k) ((),e0.2.2.1,(e0.2.2.1.length:Int),(0:Int),e0))
def I0(k:Nat)(x0:ck):Option Bool:=
 (aQ k (x0.1,(0:Int),(1000000000:Int))).bind fun y1=>
 (bif (!y1)then some false else(bif ((x0.2.1.length:Int) != (4:Int))then some false else(bif ((x0.2.2.1.length:Int) != (20:Int))then some false else(bif ((x0.2.2.2.length:Int) != (56:Int))then some false else iter k (nN k) ((),x0.2.1,(x0.2.1.length:Int),(0:Int),x0)))))
theorem Hm(k:Nat)(x0:ck):pj (k+1) (x0)=I0 k x0:=by kernel_rfl
def ky(k:Nat)(self:_→Option Bool)(d:(Unit×((List Int)×(Int×(Int×aT))))):=
 let e0:=d.2.2.2.2
 (bif (decide (d.2.2.2.1<d.2.2.1))then(if 0≤d.2.2.2.1 then(d.2.1[d.2.2.2.1.toNat]?).bind fun v0=>
 (bD k v0).bind fun v1=>
 (bif (!v1)then some false else(bif (decide ((0:Int)<d.2.2.2.1))then(if 0≤(aa .i64 (d.2.2.2.1-(1:Int)))then(e0.2.2[(aa .i64 (d.2.2.2.1-(1:Int))).toNat]?).bind fun v2=>
 (bif (decide (v0≤v2))then some false else self ((),d.2.1,d.2.2.1,(aa .i64 (d.2.2.2.1+(1:Int))),e0))else none)else self ((),d.2.1,d.2.2.1,(aa .i64 (d.2.2.2.1+(1:Int))),e0)))else none)else(bD k e0.1).bind fun v3=>
 (bif v3 then(bD k e0.2.1).bind fun v4=>
 some v4 else some false))
def DU(k:Nat)(x0:aT):Option Bool:=
 iter k (ky k) ((),x0.2.2,(x0.2.2.length:Int),(0:Int),x0)
theorem Ei(k:Nat)(x0:aT):l6 (k+1) (x0)=DU k x0:=by kernel_rfl
def dh(k:Nat)(self:_→Option Int)(d:aF):=
 (bif (decide (d.2<(2:Int)))then(if((8:Int):Int)≠0 then self ((aa .i64 (d.1.tdiv (8:Int))),(aa .i64 (d.2+(1:Int))))else none)else(if((8:Int):Int)≠0 then some (d.1.tmod (8:Int))else none))
def wz(k:Nat)(x0:Int)(x1:Int):Option Int:=
 (de k x0).bind fun y1=>
 (bif (!y1)then some (0:Int)else(aQ k (x1,(0:Int),(2:Int))).bind fun y2=>
 (bif (!y2)then some (0:Int)else iter k (dh k) (x0,x1)))
theorem um(k:Nat)(x0:Int)(x1:Int):eS (k+1) (x0,x1)=wz k x0 x1:=by kernel_rfl
def GV(k:Nat)(x0:Int)(x1:Int):Option Bool:=
 some ((intBits .and .i64 x0 x1)==x1)
theorem zX(k:Nat)(x0:Int)(x1:Int):cK (k+1) (x0,x1)=GV k x0 x1:=by kernel_rfl
def Gm(k:Nat)(self:_→Option Int)(d:((List aj)×aF)):=
 (bif (decide (d.2.2<d.2.1))then(if 0≤d.2.2 then(d.1[d.2.2.toNat]?).bind fun v0=>
 (bif (v0.1==(3:Int))then some v0.2.2 else self (d.1,d.2.1,(aa .i64 (d.2.2+(1:Int)))))else none)else some (7:Int))
def KC(k:Nat)(x0:(List aj)):Option Int:=
 iter k (Gm k) (x0,(x0.length:Int),(0:Int))
theorem En(k:Nat)(x0:(List aj)):qf (k+1) (x0)=KC k x0:=by kernel_rfl
def Ey(k:Nat)(self:_→Option (Int×Bool))(d:(Int×(Int×((List aj)×aF)))):=
 let e0:=d.2.2.2.2
 (bif (decide (e0<d.2.2.2.1))then(if 0≤e0 then(d.2.2.1[e0.toNat]?).bind fun v0=>
 (bif (v0.1==d.1)then(bif (v0.2.1==d.2.1)then some (v0.2.2,true)else self (d.1,d.2.1,d.2.2.1,d.2.2.2.1,(aa .i64 (e0+(1:Int)))))else self (d.1,d.2.1,d.2.2.1,d.2.2.2.1,(aa .i64 (e0+(1:Int)))))else none)else some ((0:Int),false))
def Jn(k:Nat)(x0:(List aj))(x1:Int)(x2:Int):Option (Int×Bool):=
 iter k (Ey k) (x1,x2,x0,(x0.length:Int),(0:Int))
theorem Ct(k:Nat)(x0:(List aj))(x1:Int)(x2:Int):oL (k+1) (x0,x1,x2)=Jn k x0 x1 x2:=by kernel_rfl
def Bb(k:Nat)(x0:aT)(x1:Int):Option Bool:=
 (bif (x0.2.1==x1)then some true else(mf k (x0.2.2,x1)).bind fun y1=>
 some y1)
theorem Ca(k:Nat)(x0:aT)(x1:Int):kt (k+1) (x0,x1)=Bb k x0 x1:=by kernel_rfl
def gj(k:Nat)(self:_→Option Bool)(d:(Int×(Int×(Unit×(Int×(Bool×(Bool×((List aj)×(Int×(Int×aT)))))))))):=
 let e0:=d.2.2.2.2
 let e1:=e0.2.2.2.2
 (bif (decide (e1.1<e0.2.2.2.1))then(if 0≤e1.1 then(e0.2.2.1[e1.1.toNat]?).bind fun v0=>
 (bif (v0.1==(2:Int))then(kt k (e1.2,v0.2.1)).bind fun v1=>
 (bif v1 then(bif e0.2.1 then self (d.1,d.2.1,(),d.2.2.2.1,true,true,e0.2.2.1,e0.2.2.2.1,(aa .i64 (e1.1+(1:Int))),e1.2)else(cK k (v0.2.2,d.2.1)).bind fun v2=>
 self (d.1,d.2.1,(),d.2.2.2.1,true,v2,e0.2.2.1,e0.2.2.2.1,(aa .i64 (e1.1+(1:Int))),e1.2))else self (d.1,d.2.1,(),d.2.2.2.1,e0.1,e0.2.1,e0.2.2.1,e0.2.2.2.1,(aa .i64 (e1.1+(1:Int))),e1.2))else self (d.1,d.2.1,(),d.2.2.2.1,e0.1,e0.2.1,e0.2.2.1,e0.2.2.2.1,(aa .i64 (e1.1+(1:Int))),e1.2))else none)else(bif e0.1 then(bif e0.2.1 then(cK k (d.2.2.2.1,d.2.1)).bind fun v3=>
 some v3 else some false)else(eS k (d.1,(2:Int))).bind fun v4=>
 (cK k (v4,d.2.1)).bind fun v5=>
 some v5))
def su(k:Nat)(x0:aT)(x1:Int)(x2:Int)(x3:Int)(x4:(List aj))(x5:Int):Option Bool:=
 (l6 k x0).bind fun y1=>
 (bif (!y1)then some false else(iY k x4).bind fun y2=>
 (bif (!y2)then some false else(bD k x1).bind fun y3=>
 (bif (!y3)then some false else(bD k x2).bind fun y4=>
 (bif (!y4)then some false else(de k x3).bind fun y5=>
 (bif (!y5)then some false else(aQ k (x5,(0:Int),(7:Int))).bind fun y6=>
 (bif (!y6)then some false else(bif (x0.1==(0:Int))then some true else(bif (x0.1==x1)then(eS k (x3,(0:Int))).bind fun y7=>
 (cK k (y7,x5)).bind fun y8=>
 some y8 else(qf k x4).bind fun y9=>
 (oL k (x4,(1:Int),x0.1)).bind fun y10=>
 (bif y10.2 then(cK k ((intBits .and .i64 y10.1 y9),x5)).bind fun y11=>
 some y11 else(oY (R:=Bool) ((kt k (x0,x2)).bind fun y13=>
 (bif y13 then(eS k (x3,(1:Int))).bind fun y14=>
 (cK k (y14,x5)).bind fun y15=>
 some (.inl (x3,x4,x5,(),y9,true,y15,x0))else some (.inl (x3,x4,x5,(),y9,false,false,x0)))) fun(d12:(Int×((List aj)×(Int×(Unit×(Int×(Bool×(Bool×aT))))))))=>let e0:=d12.2.2.2.2;iter k (gj k) (d12.1,d12.2.2.1,(),e0.1,e0.2.1,e0.2.2.1,d12.2.1,(d12.2.1.length:Int),(0:Int),e0.2.2.2)))))))))))
theorem qY(k:Nat)(x0:aT)(x1:Int)(x2:Int)(x3:Int)(x4:(List aj))(x5:Int):oG (k+1) (x0,x1,x2,x3,x4,x5)=su k x0 x1 x2 x3 x4 x5:=by kernel_rfl
def Dt(k:Nat)(x0:ck)(x1:aT)(x2:Int)(x3:Int):Option Bool:=
 (if 0≤x2 then(x0.2.2.1[x2.toNat]?).bind fun y1=>
 (oG k (x1,y1.2.2.1,y1.2.2.2.1,y1.2.1,y1.2.2.2.2.2.2.2.2.1,x3)).bind fun y2=>
 some y2 else none)
theorem D7(k:Nat)(x0:ck)(x1:aT)(x2:Int)(x3:Int):eU (k+1) (x0,x1,x2,x3)=Dt k x0 x1 x2 x3:=by kernel_rfl
def me(k:Nat)(self:_→Option ByteArray)(d:(Int×(List Int))):=
 (bif (decide ((d.2.length:Int)<d.1))then(if(d.2.length+([(0:Int)]:List Int).length)*1≤au then self (d.1,(d.2++([(0:Int)]:List Int)))else none)else some (ofBytes d.2))
def FA(k:Nat)(x0:ByteArray)(x1:Int):Option ByteArray:=
 (bif (decide ((100000:Int)<x1))then some (⟨#[]⟩:ByteArray)else iter k (me k) (x1,(bytesOf x0)))
theorem Gg(k:Nat)(x0:ByteArray)(x1:Int):kO (k+1) (x0,x1)=FA k x0 x1:=by kernel_rfl
def jw(k:Nat)(self:_→Option ByteArray)(d:(Unit×(Unit×(ByteArray×((List Int)×(Int×(Int×(aA×ck)))))))):=
 let e0:=d.2.2.2.2
 (bif (decide (e0.2.1<e0.1))then(if 0≤e0.2.1 then(d.2.2.2.1[e0.2.1.toNat]?).bind fun v0=>
 (bif (v0==(-1:Int))then(kO k ((⟨#[]⟩:ByteArray),(32:Int))).bind fun v1=>
 (if d.2.2.1.size+v1.size≤9223372036854775807 then self ((),(),(d.2.2.1++v1),d.2.2.2.1,e0.1,(aa .i64 (e0.2.1+(1:Int))),e0.2.2.1,e0.2.2.2)else none)else(if 0≤v0 then(e0.2.2.2.2.2.2[v0.toNat]?).bind fun v2=>
 (if d.2.2.1.size+v2.size≤9223372036854775807 then self ((),(),(d.2.2.1++v2),d.2.2.2.1,e0.1,(aa .i64 (e0.2.1+(1:Int))),e0.2.2.1,e0.2.2.2)else none)else none))else none)else(bif (decide (e0.2.2.1.2.2.2.2.2.1<(d.2.2.1.size:Int)))then(if 0≤e0.2.2.1.2.2.2.2.2.1 then(if e0.2.2.1.2.2.2.2.2.1≤(d.2.2.1.size:Int)then some (d.2.2.1.extract 0 e0.2.2.1.2.2.2.2.2.1.toNat)else none)else none)else some d.2.2.1))
def Ab(k:Nat)(x0:ck)(x1:aA):Option ByteArray:=
 iter k (jw k) ((),(),(⟨#[]⟩:ByteArray),x1.2.2.2.2.2.2.2.1,(x1.2.2.2.2.2.2.2.1.length:Int),(0:Int),x1,x0)
theorem CD(k:Nat)(x0:ck)(x1:aA):ku (k+1) (x0,x1)=Ab k x0 x1:=by kernel_rfl
def gM(k:Nat)(self:_→Option (Int×Bool))(d:(ByteArray×(Int×aj))):=
 let e0:=d.2.2.2.2
 (bif (decide (e0<d.2.2.1))then(if 0≤(aa .i64 (d.2.1+e0))then((d.1[(aa .i64 (d.2.1+e0)).toNat]?.map fun v0=>(v0.toNat:Int))).bind fun v1=>
 self (d.1,d.2.1,d.2.2.1,(aa .i64 ((aa .i64 ((256:Int)*d.2.2.2.1))+(aa .i64 v1))),(aa .i64 (e0+(1:Int))))else none)else some (d.2.2.2.1,true))
def vy(k:Nat)(x0:ByteArray)(x1:Int)(x2:Int):Option (Int×Bool):=
 (aQ k (x2,(1:Int),(6:Int))).bind fun y1=>
 (bif (!y1)then some ((0:Int),false)else(bif (decide (x1<(0:Int)))then some ((0:Int),false)else(bif (decide ((aa .i64 ((x0.size:Int)-x2))<x1))then some ((0:Int),false)else iter k (gM k) (x0,x1,x2,(0:Int),(0:Int)))))
theorem zr(k:Nat)(x0:ByteArray)(x1:Int)(x2:Int):lP (k+1) (x0,x1,x2)=vy k x0 x1 x2:=by kernel_rfl
def fh(k:Nat)(self:_→Option Bool)(d:ar):=
 (bif (decide (d.2<(d.1.size:Int)))then(if 0≤d.2 then((d.1[d.2.toNat]?.map fun v0=>(v0.toNat:Int))).bind fun v1=>
 (bif (v1==(0:Int))then some false else(if 0≤d.2 then((d.1[d.2.toNat]?.map fun v0=>(v0.toNat:Int))).bind fun v2=>
 (bif (v2==(47:Int))then some false else self (d.1,(aa .i64 (d.2+(1:Int)))))else none))else none)else some true)
def qw(k:Nat)(x0:ByteArray):Option Bool:=
 (aQ k ((x0.size:Int),(1:Int),(12:Int))).bind fun y1=>
 (bif (!y1)then some false else(bif (EJ x0 (⟨#[46]⟩:ByteArray))then some false else(bif (EJ x0 (⟨#[46,46]⟩:ByteArray))then some false else iter k (fh k) (x0,(0:Int)))))
theorem uV(k:Nat)(x0:ByteArray):jJ (k+1) (x0)=qw k x0:=by kernel_rfl
def gX(k:Nat)(self:_→Option ByteArray)(d:(Int×((List Int)×Int))):=
 (bif (decide ((0:Int)≤d.2.2))then(if((256:Int):Int)≠0 then(if 0≤d.2.2 then(if d.2.2<(d.2.1.length:Int)then(d.2.1[d.2.2.toNat]?).bind fun v0=>
 (if((256:Int):Int)≠0 then self ((aa .i64 (d.1.tdiv (256:Int))),(d.2.1.set d.2.2.toNat (aa .u8 (d.1.tmod (256:Int)))),(aa .i64 (d.2.2-(1:Int))))else none)else none)else none)else none)else some (ofBytes d.2.1))
def vO(k:Nat)(x0:Int)(x1:Int):Option ByteArray:=
 (aQ k (x1,(1:Int),(6:Int))).bind fun y1=>
 (bif (!y1)then some (⟨#[]⟩:ByteArray)else(bif (decide (x0<(0:Int)))then some (⟨#[]⟩:ByteArray)else(if 0≤(aa .u64 ((8:Int)*(aa .u64 x1)))then(bif (decide ((aa .i64 ((1:Int)*2 ^(min (aa .u64 ((8:Int)*(aa .u64 x1))).toNat (IntKind.bits .i64))))≤x0))then some (⟨#[]⟩:ByteArray)else(if 0≤x1 then(if x1≤x1 then(if x1*1≤(au:Int)then iter k (gX k) (x0,(List.replicate x1.toNat (0:Int)),(aa .i64 (x1-(1:Int))))else none)else none)else none))else none)))
theorem zm(k:Nat)(x0:Int)(x1:Int):iK (k+1) (x0,x1)=vO k x0 x1:=by kernel_rfl
def u3(k:Nat)(x0:ar):Option ByteArray:=
 (iK k ((aa .i64 (x0.2+(1:Int))),(2:Int))).bind fun y1=>
 (iK k ((x0.1.size:Int),(1:Int))).bind fun y2=>
 (if y1.size+y2.size≤9223372036854775807 then(if(y1++y2).size+x0.1.size≤9223372036854775807 then(kO k (((y1++y2)++x0.1),(16:Int))).bind fun y3=>
 some y3 else none)else none)
theorem zy(k:Nat)(x0:ar):lY (k+1) (x0)=u3 k x0:=by kernel_rfl
def eg(k:Nat)(self:_→Option (List ar))(d:((List ar)×ar)):=
 (bif (decide ((aa .i64 (d.2.2+(16:Int)))≤(d.2.1.size:Int)))then(lP k (d.2.1,d.2.2,(2:Int))).bind fun v0=>
 (if 0≤(aa .i64 (d.2.2+(2:Int)))then((d.2.1[(aa .i64 (d.2.2+(2:Int))).toNat]?.map fun v1=>(v1.toNat:Int))).bind fun v2=>
 (aQ k (v0.1,(1:Int),(20:Int))).bind fun v3=>
 (bif (!v3)then self (d.1,d.2.1,(aa .i64 (d.2.2+(16:Int))))else(bif (decide ((12:Int)<(aa .i64 v2)))then self (d.1,d.2.1,(aa .i64 (d.2.2+(16:Int))))else(if 0≤(aa .i64 ((aa .i64 (d.2.2+(3:Int)))+(aa .i64 v2)))then(if(aa .i64 ((aa .i64 (d.2.2+(3:Int)))+(aa .i64 v2)))≤(d.2.1.size:Int)then(if 0≤(aa .i64 (d.2.2+(3:Int)))then(if(aa .i64 (d.2.2+(3:Int)))≤(((aa .i64 ((aa .i64 (d.2.2+(3:Int)))+(aa .i64 v2))).toNat:Nat):Int)then(jJ k (d.2.1.extract ((aa .i64 (d.2.2+(3:Int))).toNat) ((aa .i64 ((aa .i64 (d.2.2+(3:Int)))+(aa .i64 v2))).toNat))).bind fun v4=>
 (bif v4 then(lY k ((d.2.1.extract ((aa .i64 (d.2.2+(3:Int))).toNat) ((aa .i64 ((aa .i64 (d.2.2+(3:Int)))+(aa .i64 v2))).toNat)),(aa .i64 (v0.1-(1:Int))))).bind fun v5=>
 (if 0≤(aa .i64 (d.2.2+(16:Int)))then(if(aa .i64 (d.2.2+(16:Int)))≤(d.2.1.size:Int)then(if 0≤d.2.2 then(if d.2.2≤(((aa .i64 (d.2.2+(16:Int))).toNat:Nat):Int)then(bif (EJ v5 (d.2.1.extract d.2.2.toNat ((aa .i64 (d.2.2+(16:Int))).toNat)))then(if(d.1.length+([((d.2.1.extract ((aa .i64 (d.2.2+(3:Int))).toNat) ((aa .i64 ((aa .i64 (d.2.2+(3:Int)))+(aa .i64 v2))).toNat)),(aa .i64 (v0.1-(1:Int))))]:List ar).length)*24≤au then self ((d.1++([((d.2.1.extract ((aa .i64 (d.2.2+(3:Int))).toNat) ((aa .i64 ((aa .i64 (d.2.2+(3:Int)))+(aa .i64 v2))).toNat)),(aa .i64 (v0.1-(1:Int))))]:List ar)),d.2.1,(aa .i64 (d.2.2+(16:Int))))else none)else self (d.1,d.2.1,(aa .i64 (d.2.2+(16:Int)))))else none)else none)else none)else none)else self (d.1,d.2.1,(aa .i64 (d.2.2+(16:Int)))))else none)else none)else none)else none)))else none)else some d.1)
def tT(k:Nat)(x0:ck)(x1:Int):Option (List ar):=
 (if 0≤x1 then(x0.2.2.1[x1.toNat]?).bind fun y1=>
 (ku k (x0,y1)).bind fun y2=>
 iter k (eg k) (([]:List ar),y2,(0:Int))else none)
theorem xM(k:Nat)(x0:ck)(x1:Int):eN (k+1) (x0,x1)=tT k x0 x1:=by kernel_rfl
def D5(k:Nat)(self:_→Option (Int×Bool))(d:(ByteArray×((List ar)×aF))):=
 (bif (decide (d.2.2.2<d.2.2.1))then(if 0≤d.2.2.2 then(if d.2.2.2<(d.2.1.length:Int)then(d.2.1[d.2.2.2.toNat]?).bind fun v0=>
 (bif (EJ v0.1 d.1)then some (v0.2,true)else self (d.1,d.2.1,d.2.2.1,(aa .i64 (d.2.2.2+(1:Int)))))else none)else none)else some ((0:Int),false))
def BS(k:Nat)(x0:ck)(x1:Int)(x2:ByteArray):Option (Int×Bool):=
 (eN k (x0,x1)).bind fun y1=>
 iter k (D5 k) (x2,y1,(y1.length:Int),(0:Int))
theorem Cc(k:Nat)(x0:ck)(x1:Int)(x2:ByteArray):oM (k+1) (x0,x1,x2)=BS k x0 x1 x2:=by kernel_rfl
def fm(k:Nat)(a0:_→Option (List Bool))(self:_→Option (List Bool))(d:(Unit×(Unit×((List Bool)×(Int×((List Int)×(Int×((List Int)×(Int×(Int×((List ar)×(Int×(Int×(aT×ck)))))))))))))):=
 let e0:=d.2.2.2.2
 let e1:=e0.2.2.2.2
 let e2:=e1.2.2.2.2
 (bif (decide (e1.2.2.2.1<e1.2.2.1))then(if 0≤e1.2.2.2.1 then(if e1.2.2.2.1<(e1.2.1.length:Int)then(e1.2.1[e1.2.2.2.1.toNat]?).bind fun v0=>
 (oM k (e2.2,e0.2.1,v0.1)).bind fun v1=>
 (if 0≤v1.1 then(e2.2.2.2.1[v1.1.toNat]?).bind fun v2=>
 (bif (v2.1 != (0:Int))then(if 0≤v1.1 then(if v1.1<(d.2.2.1.length:Int)then(d.2.2.1[v1.1.toNat]?).bind fun v3=>
 (bif (!v3)then(if 0≤v1.1 then(if v1.1<(d.2.2.1.length:Int)then(d.2.2.1[v1.1.toNat]?).bind fun v4=>
 (if(e0.1.length+([v1.1]:List Int).length)*8≤au then self ((),(),(d.2.2.1.set v1.1.toNat true),d.2.2.2.1,(e0.1++([v1.1]:List Int)),e0.2.1,e0.2.2.1,e0.2.2.2.1,e1.1,e1.2.1,e1.2.2.1,(aa .i64 (e1.2.2.2.1+(1:Int))),e2.1,e2.2)else none)else none)else none)else self ((),(),d.2.2.1,d.2.2.2.1,e0.1,e0.2.1,e0.2.2.1,e0.2.2.2.1,e1.1,e1.2.1,e1.2.2.1,(aa .i64 (e1.2.2.2.1+(1:Int))),e2.1,e2.2))else none)else none)else self ((),(),d.2.2.1,d.2.2.2.1,e0.1,e0.2.1,e0.2.2.1,e0.2.2.2.1,e1.1,e1.2.1,e1.2.2.1,(aa .i64 (e1.2.2.2.1+(1:Int))),e2.1,e2.2))else none)else none)else none)else a0 ((),(),d.2.2.1,d.2.2.2.1,e0.1,e0.2.2.1,e0.2.2.2.1,(aa .i64 (e1.1+(1:Int))),e2.1,e2.2))
def fv(k:Nat)(a0:_→Option (List Bool))(self:_→Option (List Bool))(d:(Unit×(Unit×((List Bool)×(Int×((List Int)×((List Int)×(Int×(Int×(aT×ck)))))))))):=
 let e0:=d.2.2.2.2
 let e1:=e0.2.2.2.2
 (bif (decide (e0.2.2.2.1<e0.2.2.1))then(if 0≤e0.2.2.2.1 then(if e0.2.2.2.1<(e0.2.1.length:Int)then(e0.2.1[e0.2.2.2.1.toNat]?).bind fun v0=>
 (if 0≤v0 then(e1.2.2.2.1[v0.toNat]?).bind fun v1=>
 (bif (v1.1 != (2:Int))then self ((),(),d.2.2.1,d.2.2.2.1,e0.1,e0.2.1,e0.2.2.1,(aa .i64 (e0.2.2.2.1+(1:Int))),e1.1,e1.2)else(eU k (e1.2,e1.1,v0,(1:Int))).bind fun v2=>
 (bif (!v2)then self ((),(),d.2.2.1,d.2.2.2.1,e0.1,e0.2.1,e0.2.2.1,(aa .i64 (e0.2.2.2.1+(1:Int))),e1.1,e1.2)else(eN k (e1.2,v0)).bind fun v3=>
 iter k (fm k self) ((),(),d.2.2.1,d.2.2.2.1,e0.1,v0,e0.2.1,e0.2.2.1,e0.2.2.2.1,v3,(v3.length:Int),(0:Int),e1.1,e1.2)))else none)else none)else none)else a0 ((),(),d.2.2.1,e0.1,(aa .i64 (d.2.2.2.1+(1:Int))),e1.1,e1.2))
def iP(k:Nat)(self:_→Option (List Bool))(d:(Unit×(Unit×((List Bool)×((List Int)×(Int×(aT×ck))))))):=
 let e0:=d.2.2.2.2
 (bif (decide (e0.1<(8:Int)))then iter k (fv k self) ((),(),d.2.2.1,e0.1,([]:List Int),d.2.2.2.1,(d.2.2.2.1.length:Int),(0:Int),e0.2.1,e0.2.2)else some d.2.2.1)
def yJ(k:Nat)(x0:ck)(x1:aT):Option (List Bool):=
 (if 0≤(20:Int)then(if(20:Int)≤(20:Int)then(if(20:Int)*1≤(au:Int)then(if 0≤(0:Int)then(if(0:Int)<(((List.replicate (20:Int).toNat false).length:Nat):Int)then((List.replicate (20:Int).toNat false)[(0:Int).toNat]?).bind fun y1=>
 iter k (iP k) ((),(),((List.replicate (20:Int).toNat false).set (0:Int).toNat true),([(0:Int)]:List Int),(0:Int),x1,x0)else none)else none)else none)else none)else none)
theorem By(k:Nat)(x0:ck)(x1:aT):fY (k+1) (x0,x1)=yJ k x0 x1:=by kernel_rfl
def fG(k:Nat)(self:_→Option (List Int))(d:((List Int)×((List Bool)×aF))):=
 (bif (decide (d.2.2.2<d.2.2.1))then(if 0≤d.2.2.2 then(if d.2.2.2<(d.2.1.length:Int)then(d.2.1[d.2.2.2.toNat]?).bind fun v0=>
 (bif v0 then(if(d.1.length+([d.2.2.2]:List Int).length)*8≤au then self ((d.1++([d.2.2.2]:List Int)),d.2.1,d.2.2.1,(aa .i64 (d.2.2.2+(1:Int))))else none)else self (d.1,d.2.1,d.2.2.1,(aa .i64 (d.2.2.2+(1:Int)))))else none)else none)else some d.1)
def tE(k:Nat)(x0:ck)(x1:aT):Option (List Int):=
 (fY k (x0,x1)).bind fun y1=>
 iter k (fG k) (([]:List Int),y1,(y1.length:Int),(0:Int))
theorem xG(k:Nat)(x0:ck)(x1:aT):kY (k+1) (x0,x1)=tE k x0 x1:=by kernel_rfl
def eM(k:Nat)(self:_→Option ByteArray)(d:(Int×ByteArray)):=
 (bif (decide ((9:Int)<d.1))then(if((10:Int):Int)≠0 then(if(ofBytes ([(aa .u8 (aa .i64 ((48:Int)+(d.1.tmod (10:Int)))))]:List Int)).size+d.2.size≤9223372036854775807 then(if((10:Int):Int)≠0 then self ((aa .i64 (d.1.tdiv (10:Int))),((ofBytes ([(aa .u8 (aa .i64 ((48:Int)+(d.1.tmod (10:Int)))))]:List Int))++d.2))else none)else none)else none)else(if(ofBytes ([(aa .u8 (aa .i64 ((48:Int)+d.1)))]:List Int)).size+d.2.size≤9223372036854775807 then some ((ofBytes ([(aa .u8 (aa .i64 ((48:Int)+d.1)))]:List Int))++d.2)else none))
def iy(k:Nat)(x0:Int):Option ByteArray:=
 (bif (decide (x0<(0:Int)))then(if((10:Int):Int)≠0 then(bif ((aa .i64 (x0.tdiv (10:Int)))==(0:Int))then(if(⟨#[45]⟩:ByteArray).size+(ofBytes ([(aa .u8 (aa .i64 ((48:Int)-x0)))]:List Int)).size≤9223372036854775807 then some ((⟨#[45]⟩:ByteArray)++(ofBytes ([(aa .u8 (aa .i64 ((48:Int)-x0)))]:List Int)))else none)else(if((10:Int):Int)≠0 then(aZ k (aa .i64 (x0.tdiv (10:Int)))).bind fun y1=>
 (if((10:Int):Int)≠0 then(if y1.size+(ofBytes ([(aa .u8 (aa .i64 ((48:Int)-(x0.tmod (10:Int)))))]:List Int)).size≤9223372036854775807 then some (y1++(ofBytes ([(aa .u8 (aa .i64 ((48:Int)-(x0.tmod (10:Int)))))]:List Int)))else none)else none)else none))else none)else iter k (eM k) (x0,(⟨#[]⟩:ByteArray)))
theorem jL(k:Nat)(x0:Int):aZ (k+1) (x0)=iy k x0:=by kernel_rfl
def nJ(k:Nat)(self:_→Option ByteArray)(d:(ByteArray×(ByteArray×((List ByteArray)×aF)))):=
 let e0:=d.2.2.2.2
 (bif (decide (e0<d.2.2.2.1))then(if 0≤e0 then(d.2.2.1[e0.toNat]?).bind fun v0=>
 (bif (decide ((0:Int)<e0))then(if d.2.1.size+d.1.size≤9223372036854775807 then(if(d.2.1++d.1).size+v0.size≤9223372036854775807 then self (d.1,((d.2.1++d.1)++v0),d.2.2.1,d.2.2.2.1,(aa .i64 (e0+(1:Int))))else none)else none)else(if d.2.1.size+v0.size≤9223372036854775807 then self (d.1,(d.2.1++v0),d.2.2.1,d.2.2.2.1,(aa .i64 (e0+(1:Int))))else none))else none)else some d.2.1)
def H8(k:Nat)(x0:(List ByteArray))(x1:ByteArray):Option ByteArray:=
 iter k (nJ k) (x1,(⟨#[]⟩:ByteArray),x0,(x0.length:Int),(0:Int))
theorem Ht(k:Nat)(x0:(List ByteArray))(x1:ByteArray):mS (k+1) (x0,x1)=H8 k x0 x1:=by kernel_rfl
def Kf(k:Nat)(x0:Bool)(x1:ByteArray):Option ByteArray:=
 (bif x0 then some x1 else some (⟨#[45]⟩:ByteArray))
theorem EB(k:Nat)(x0:Bool)(x1:ByteArray):eW (k+1) (x0,x1)=Kf k x0 x1:=by kernel_rfl
def fK(k:Nat)(self:_→Option ByteArray)(d:(Int×ar)):=
 (bif (decide (d.2.2<(3:Int)))then(eS k (d.1,d.2.2)).bind fun v0=>
 (eW k (((intBits .and .i64 v0 (4:Int)) != (0:Int)),(⟨#[114]⟩:ByteArray))).bind fun v1=>
 (if d.2.1.size+v1.size≤9223372036854775807 then(eW k (((intBits .and .i64 v0 (2:Int)) != (0:Int)),(⟨#[119]⟩:ByteArray))).bind fun v2=>
 (if(d.2.1++v1).size+v2.size≤9223372036854775807 then(eW k (((intBits .and .i64 v0 (1:Int)) != (0:Int)),(⟨#[120]⟩:ByteArray))).bind fun v3=>
 (if((d.2.1++v1)++v2).size+v3.size≤9223372036854775807 then self (d.1,(((d.2.1++v1)++v2)++v3),(aa .i64 (d.2.2+(1:Int))))else none)else none)else none)else some d.2.1)
def tG(k:Nat)(x0:Int):Option ByteArray:=
 (de k x0).bind fun y1=>
 (bif (!y1)then some (⟨#[]⟩:ByteArray)else(eW k (((intBits .and .i64 x0 (1024:Int)) != (0:Int)),(⟨#[115]⟩:ByteArray))).bind fun y2=>
 (eW k (((intBits .and .i64 x0 (512:Int)) != (0:Int)),(⟨#[116]⟩:ByteArray))).bind fun y3=>
 (if y2.size+y3.size≤9223372036854775807 then iter k (fK k) (x0,(y2++y3),(0:Int))else none))
theorem xB(k:Nat)(x0:Int):k9 (k+1) (x0)=tG k x0:=by kernel_rfl
def gI(k:Nat)(self:_→Option ByteArray)(d:((List ByteArray)×((List aj)×aF))):=
 (bif (decide (d.2.2.2<d.2.2.1))then(if 0≤d.2.2.2 then(d.2.1[d.2.2.2.toNat]?).bind fun v0=>
 (if 0≤(aa .i64 (v0.1+(1:Int)))then(if(aa .i64 (v0.1+(1:Int)))≤(((⟨#[63,117,103,109]⟩:ByteArray).size:Nat):Int)then(if 0≤v0.1 then(if v0.1≤(((aa .i64 (v0.1+(1:Int))).toNat:Nat):Int)then(aZ k v0.2.1).bind fun v1=>
 (if((⟨#[63,117,103,109]⟩:ByteArray).extract v0.1.toNat ((aa .i64 (v0.1+(1:Int))).toNat)).size+v1.size≤9223372036854775807 then(if(((⟨#[63,117,103,109]⟩:ByteArray).extract v0.1.toNat ((aa .i64 (v0.1+(1:Int))).toNat))++v1).size+(⟨#[58]⟩:ByteArray).size≤9223372036854775807 then(aZ k v0.2.2).bind fun v2=>
 (if((((⟨#[63,117,103,109]⟩:ByteArray).extract v0.1.toNat ((aa .i64 (v0.1+(1:Int))).toNat))++v1)++(⟨#[58]⟩:ByteArray)).size+v2.size≤9223372036854775807 then(if(d.1.length+([(((((⟨#[63,117,103,109]⟩:ByteArray).extract v0.1.toNat ((aa .i64 (v0.1+(1:Int))).toNat))++v1)++(⟨#[58]⟩:ByteArray))++v2)]:List ByteArray).length)*16≤au then self ((d.1++([(((((⟨#[63,117,103,109]⟩:ByteArray).extract v0.1.toNat ((aa .i64 (v0.1+(1:Int))).toNat))++v1)++(⟨#[58]⟩:ByteArray))++v2)]:List ByteArray)),d.2.1,d.2.2.1,(aa .i64 (d.2.2.2+(1:Int))))else none)else none)else none)else none)else none)else none)else none)else none)else none)else(bif ((d.1.length:Int)==(0:Int))then some (⟨#[45]⟩:ByteArray)else(mS k (d.1,(⟨#[44]⟩:ByteArray))).bind fun v3=>
 some v3))
def vq(k:Nat)(x0:(List aj)):Option ByteArray:=
 (iY k x0).bind fun y1=>
 (bif (!y1)then some (⟨#[]⟩:ByteArray)else iter k (gI k) (([]:List ByteArray),x0,(x0.length:Int),(0:Int)))
theorem zk(k:Nat)(x0:(List aj)):iA (k+1) (x0)=vq k x0:=by kernel_rfl
def Am(k:Nat)(x0:aA):Option ByteArray:=
 (oY (R:=ByteArray) ((bif (x0.1==(2:Int))then some (.inl ((),([(⟨#[100,105,114]⟩:ByteArray)]:List ByteArray),x0))else some (.inl ((),([(⟨#[102,105,108,101]⟩:ByteArray)]:List ByteArray),x0)))) fun(d1:(Unit×((List ByteArray)×aA)))=>let e0:=d1.2.2.2.2;(k9 k d1.2.2.2.1).bind fun y2=>
 (aZ k e0.1).bind fun y3=>
 (aZ k e0.2.1).bind fun y4=>
 (aZ k e0.2.2.1).bind fun y5=>
 (aZ k e0.2.2.2.1).bind fun y6=>
 (aZ k e0.2.2.2.2.1).bind fun y7=>
 (iA k e0.2.2.2.2.2.2.1).bind fun y8=>
 (iA k e0.2.2.2.2.2.2.2).bind fun y9=>
 (if(d1.2.1.length+([y2,y3,y4,y5,y6,y7,y8,y9]:List ByteArray).length)*16≤au then(mS k ((d1.2.1++([y2,y3,y4,y5,y6,y7,y8,y9]:List ByteArray)),(⟨#[32]⟩:ByteArray))).bind fun y10=>
 some y10 else none))
theorem CU(k:Nat)(x0:aA):oT (k+1) (x0)=Am k x0:=by kernel_rfl
def iD(k:Nat)(a0:_→Option (List ByteArray))(self:_→Option (List ByteArray))(d:((List ByteArray)×(Unit×(Int×((List ar)×(Int×(Int×ar))))))):=
 let e0:=d.2.2.2.2
 (bif (decide ((0:Int)<d.2.2.1))then(if 0≤(aa .i64 (d.2.2.1-(1:Int)))then(if(aa .i64 (d.2.2.1-(1:Int)))<(d.1.length:Int)then(d.1[(aa .i64 (d.2.2.1-(1:Int))).toNat]?).bind fun v0=>
 (bif (!((Se v0 e0.2.2.1)||(EJ v0 e0.2.2.1)))then self (d.1,(),(aa .i64 (d.2.2.1-(1:Int))),d.2.2.2.1,e0.1,e0.2.1,e0.2.2)else(if 0≤d.2.2.1 then(if d.2.2.1≤(d.1.length:Int)then(if(([]:List ByteArray).length+((d.1.drop 0).take (d.2.2.1.toNat-0)).length)*16≤au then(if((([]:List ByteArray)++((d.1.drop 0).take (d.2.2.1.toNat-0))).length+([e0.2.2.1]:List ByteArray).length)*16≤au then(if 0≤d.2.2.1 then(if d.2.2.1≤(d.1.length:Int)then(if(((([]:List ByteArray)++((d.1.drop 0).take (d.2.2.1.toNat-0)))++([e0.2.2.1]:List ByteArray)).length+((d.1.drop d.2.2.1.toNat).take (d.1.length-d.2.2.1.toNat)).length)*16≤au then a0 ((((([]:List ByteArray)++((d.1.drop 0).take (d.2.2.1.toNat-0)))++([e0.2.2.1]:List ByteArray))++((d.1.drop d.2.2.1.toNat).take (d.1.length-d.2.2.1.toNat))),d.2.2.2.1,e0.1,(aa .i64 (e0.2.1+(1:Int))))else none)else none)else none)else none)else none)else none)else none))else none)else none)else(if 0≤d.2.2.1 then(if d.2.2.1≤(d.1.length:Int)then(if(([]:List ByteArray).length+((d.1.drop 0).take (d.2.2.1.toNat-0)).length)*16≤au then(if((([]:List ByteArray)++((d.1.drop 0).take (d.2.2.1.toNat-0))).length+([e0.2.2.1]:List ByteArray).length)*16≤au then(if 0≤d.2.2.1 then(if d.2.2.1≤(d.1.length:Int)then(if(((([]:List ByteArray)++((d.1.drop 0).take (d.2.2.1.toNat-0)))++([e0.2.2.1]:List ByteArray)).length+((d.1.drop d.2.2.1.toNat).take (d.1.length-d.2.2.1.toNat)).length)*16≤au then a0 ((((([]:List ByteArray)++((d.1.drop 0).take (d.2.2.1.toNat-0)))++([e0.2.2.1]:List ByteArray))++((d.1.drop d.2.2.1.toNat).take (d.1.length-d.2.2.1.toNat))),d.2.2.2.1,e0.1,(aa .i64 (e0.2.1+(1:Int))))else none)else none)else none)else none)else none)else none)else none))
def iN(k:Nat)(self:_→Option (List ByteArray))(d:((List ByteArray)×((List ar)×aF))):=
 (bif (decide (d.2.2.2<d.2.2.1))then(if 0≤d.2.2.2 then(d.2.1[d.2.2.2.toNat]?).bind fun v0=>
 iter k (iD k self) (d.1,(),(d.1.length:Int),d.2.1,d.2.2.1,d.2.2.2,v0)else none)else some d.1)
def xV(k:Nat)(x0:(List ar)):Option (List ByteArray):=
 iter k (iN k) (([]:List ByteArray),x0,(x0.length:Int),(0:Int))
theorem Bx(k:Nat)(x0:(List ar)):ny (k+1) (x0)=xV k x0:=by kernel_rfl
def mh(k:Nat)(self:_→Option ByteArray)(d:(ByteArray×((List Int)×Int))):=
 (bif (decide (d.2.2<(d.1.size:Int)))then(if 0≤d.2.2 then((d.1[d.2.2.toNat]?.map fun v0=>(v0.toNat:Int))).bind fun v1=>
 (if((16:Int):Int)≠0 then(if 0≤(aa .u8 (v1.tdiv (16:Int)))then(((⟨#[48,49,50,51,52,53,54,55,56,57,97,98,99,100,101,102]⟩:ByteArray)[(aa .u8 (v1.tdiv (16:Int))).toNat]?.map fun v0=>(v0.toNat:Int))).bind fun v2=>
 (if 0≤d.2.2 then((d.1[d.2.2.toNat]?.map fun v0=>(v0.toNat:Int))).bind fun v3=>
 (if((16:Int):Int)≠0 then(if 0≤(v3.tmod (16:Int))then(((⟨#[48,49,50,51,52,53,54,55,56,57,97,98,99,100,101,102]⟩:ByteArray)[(v3.tmod (16:Int)).toNat]?.map fun v0=>(v0.toNat:Int))).bind fun v4=>
 (if(d.2.1.length+([v2,v4]:List Int).length)*1≤au then self (d.1,(d.2.1++([v2,v4]:List Int)),(aa .i64 (d.2.2+(1:Int))))else none)else none)else none)else none)else none)else none)else none)else some (ofBytes d.2.1))
def GH(k:Nat)(x0:ByteArray):Option ByteArray:=
 iter k (mh k) (x0,([]:List Int),(0:Int))
theorem FR(k:Nat)(x0:ByteArray):sJ (k+1) (x0)=GH k x0:=by kernel_rfl
def gL(k:Nat)(self:_→Option Int)(d:(Int×(Unit×(Int×(Int×ck))))):=
 (bif (decide (d.2.2.2.1<(5:Int)))then(if 0≤(aa .i64 ((aa .i64 (d.1*(5:Int)))+d.2.2.2.1))then(d.2.2.2.2.2.2.1[(aa .i64 ((aa .i64 (d.1*(5:Int)))+d.2.2.2.1)).toNat]?).bind fun v0=>
 (bif (v0.1 != (0:Int))then self (d.1,(),(aa .i64 (d.2.2.1+(1:Int))),(aa .i64 (d.2.2.2.1+(1:Int))),d.2.2.2.2)else self (d.1,(),d.2.2.1,(aa .i64 (d.2.2.2.1+(1:Int))),d.2.2.2.2))else none)else some d.2.2.1)
def wk(k:Nat)(x0:ck)(x1:Int):Option Int:=
 iter k (gL k) (x1,(),(0:Int),(0:Int),x0)
theorem zb(k:Nat)(x0:ck)(x1:Int):lD (k+1) (x0,x1)=wk k x0 x1:=by kernel_rfl
def gP(k:Nat)(a0:_→Option Int)(self:_→Option Int)(d:(Int×(Int×((List aA)×(Int×(Int×((List Int)×aF))))))):=
 let e0:=d.2.2.2.2
 (bif (decide (e0.2.2.2<e0.2.2.1))then(if 0≤e0.2.2.2 then(e0.2.1[e0.2.2.2.toNat]?).bind fun v0=>
 (bif (v0 != (-1:Int))then(gJ k v0).bind fun v1=>
 (bif (v1==d.1)then self (d.1,(aa .i64 (d.2.1+(1:Int))),d.2.2.1,d.2.2.2.1,e0.1,e0.2.1,e0.2.2.1,(aa .i64 (e0.2.2.2+(1:Int))))else self (d.1,d.2.1,d.2.2.1,d.2.2.2.1,e0.1,e0.2.1,e0.2.2.1,(aa .i64 (e0.2.2.2+(1:Int)))))else self (d.1,d.2.1,d.2.2.1,d.2.2.2.1,e0.1,e0.2.1,e0.2.2.1,(aa .i64 (e0.2.2.2+(1:Int)))))else none)else a0 (d.1,d.2.1,d.2.2.1,d.2.2.2.1,(aa .i64 (e0.1+(1:Int)))))
def gU(k:Nat)(self:_→Option Int)(d:(Int×(Int×((List aA)×aF)))):=
 let e0:=d.2.2.2.2
 (bif (decide (e0<d.2.2.2.1))then(if 0≤e0 then(d.2.2.1[e0.toNat]?).bind fun v0=>
 iter k (gP k self) (d.1,d.2.1,d.2.2.1,d.2.2.2.1,e0,v0.2.2.2.2.2.2.2.1,(v0.2.2.2.2.2.2.2.1.length:Int),(0:Int))else none)else some d.2.1)
def vK(k:Nat)(x0:ck)(x1:Int):Option Int:=
 iter k (gU k) (x1,(0:Int),x0.2.2.1,(x0.2.2.1.length:Int),(0:Int))
theorem zY(k:Nat)(x0:ck)(x1:Int):lO (k+1) (x0,x1)=vK k x0 x1:=by kernel_rfl
def kF(k:Nat)(x0:ck)(x1:Int):Option ByteArray:=
 (pj k x0).bind fun y1=>
 (bif (!y1)then some (⟨#[]⟩:ByteArray)else(bD k x1).bind fun y2=>
 (bif (!y2)then some (⟨#[]⟩:ByteArray)else(if 0≤x1 then(x0.2.1[x1.toNat]?).bind fun y3=>
 (lD k (x0,x1)).bind fun y4=>
 (aZ k y4).bind fun y5=>
 (if y5.size+(⟨#[47]⟩:ByteArray).size≤9223372036854775807 then(aZ k y3.1).bind fun y6=>
 (if(y5++(⟨#[47]⟩:ByteArray)).size+y6.size≤9223372036854775807 then(if((y5++(⟨#[47]⟩:ByteArray))++y6).size+(⟨#[32]⟩:ByteArray).size≤9223372036854775807 then(lO k (x0,x1)).bind fun y7=>
 (aZ k y7).bind fun y8=>
 (if(((y5++(⟨#[47]⟩:ByteArray))++y6)++(⟨#[32]⟩:ByteArray)).size+y8.size≤9223372036854775807 then(if((((y5++(⟨#[47]⟩:ByteArray))++y6)++(⟨#[32]⟩:ByteArray))++y8).size+(⟨#[47]⟩:ByteArray).size≤9223372036854775807 then(aZ k y3.2).bind fun y9=>
 (if(((((y5++(⟨#[47]⟩:ByteArray))++y6)++(⟨#[32]⟩:ByteArray))++y8)++(⟨#[47]⟩:ByteArray)).size+y9.size≤9223372036854775807 then some ((((((y5++(⟨#[47]⟩:ByteArray))++y6)++(⟨#[32]⟩:ByteArray))++y8)++(⟨#[47]⟩:ByteArray))++y9)else none)else none)else none)else none)else none)else none)else none)))
theorem jS(k:Nat)(x0:ck)(x1:Int):iW (k+1) (x0,x1)=kF k x0 x1:=by kernel_rfl
def ij(k:Nat)(self:_→Option (List ByteArray))(d:(Unit×(Unit×((List ByteArray)×((List Int)×(Int×(Int×(aT×ck)))))))):=
 let e0:=d.2.2.2.2
 (bif (decide (e0.2.1<e0.1))then(if 0≤e0.2.1 then(if e0.2.1<(d.2.2.2.1.length:Int)then(d.2.2.2.1[e0.2.1.toNat]?).bind fun v0=>
 (if 0≤v0 then(e0.2.2.2.2.2.1[v0.toNat]?).bind fun v1=>
 (aZ k v0).bind fun v2=>
 (if v2.size+(⟨#[32]⟩:ByteArray).size≤9223372036854775807 then(oT k v1).bind fun v3=>
 (if(v2++(⟨#[32]⟩:ByteArray)).size+v3.size≤9223372036854775807 then(eU k (e0.2.2.2,e0.2.2.1,v0,(4:Int))).bind fun v4=>
 (bif v4 then(bif (v1.1==(2:Int))then(if((v2++(⟨#[32]⟩:ByteArray))++v3).size+(⟨#[32]⟩:ByteArray).size≤9223372036854775807 then(eN k (e0.2.2.2,v0)).bind fun v5=>
 (ny k v5).bind fun v6=>
 (mS k (v6,(⟨#[44]⟩:ByteArray))).bind fun v7=>
 (if(((v2++(⟨#[32]⟩:ByteArray))++v3)++(⟨#[32]⟩:ByteArray)).size+v7.size≤9223372036854775807 then(if(d.2.2.1.length+([((((v2++(⟨#[32]⟩:ByteArray))++v3)++(⟨#[32]⟩:ByteArray))++v7)]:List ByteArray).length)*16≤au then self ((),(),(d.2.2.1++([((((v2++(⟨#[32]⟩:ByteArray))++v3)++(⟨#[32]⟩:ByteArray))++v7)]:List ByteArray)),d.2.2.2.1,e0.1,(aa .i64 (e0.2.1+(1:Int))),e0.2.2.1,e0.2.2.2)else none)else none)else none)else(if((v2++(⟨#[32]⟩:ByteArray))++v3).size+(⟨#[32]⟩:ByteArray).size≤9223372036854775807 then(ku k (e0.2.2.2,v1)).bind fun v8=>
 (sJ k v8).bind fun v9=>
 (if(((v2++(⟨#[32]⟩:ByteArray))++v3)++(⟨#[32]⟩:ByteArray)).size+v9.size≤9223372036854775807 then(if(d.2.2.1.length+([((((v2++(⟨#[32]⟩:ByteArray))++v3)++(⟨#[32]⟩:ByteArray))++v9)]:List ByteArray).length)*16≤au then self ((),(),(d.2.2.1++([((((v2++(⟨#[32]⟩:ByteArray))++v3)++(⟨#[32]⟩:ByteArray))++v9)]:List ByteArray)),d.2.2.2.1,e0.1,(aa .i64 (e0.2.1+(1:Int))),e0.2.2.1,e0.2.2.2)else none)else none)else none))else(if(d.2.2.1.length+([((v2++(⟨#[32]⟩:ByteArray))++v3)]:List ByteArray).length)*16≤au then self ((),(),(d.2.2.1++([((v2++(⟨#[32]⟩:ByteArray))++v3)]:List ByteArray)),d.2.2.2.1,e0.1,(aa .i64 (e0.2.1+(1:Int))),e0.2.2.1,e0.2.2.2)else none))else none)else none)else none)else none)else none)else(iW k (e0.2.2.2,e0.2.2.1.1)).bind fun v10=>
 (if(⟨#[117,115,97,103,101,32]⟩:ByteArray).size+v10.size≤9223372036854775807 then(if(d.2.2.1.length+([((⟨#[117,115,97,103,101,32]⟩:ByteArray)++v10)]:List ByteArray).length)*16≤au then some (d.2.2.1++([((⟨#[117,115,97,103,101,32]⟩:ByteArray)++v10)]:List ByteArray))else none)else none))
def uN(k:Nat)(x0:ck)(x1:aT):Option (List ByteArray):=
 (pj k x0).bind fun y1=>
 (bif (!y1)then some ([]:List ByteArray)else(l6 k x1).bind fun y2=>
 (bif (!y2)then some ([]:List ByteArray)else(kY k (x0,x1)).bind fun y3=>
 iter k (ij k) ((),(),([]:List ByteArray),y3,(y3.length:Int),(0:Int),x1,x0)))
theorem tS(k:Nat)(x0:ck)(x1:aT):qo (k+1) (x0,x1)=uN k x0 x1:=by kernel_rfl
def AY(k:Nat)(x0:aF):Option aF:=
 some (x0.1,x0.2)
theorem BY(k:Nat)(x0:aF):la (k+1) (x0)=AY k x0:=by kernel_rfl
def rF(k:Nat)(self:_→Option (List aF))(d:((List aF)×((List aF)×Int))):=
 (bif (decide (d.2.2<(d.1.length:Int)))then(if 0≤d.2.2 then(d.1[d.2.2.toNat]?).bind fun v0=>
 (la k v0).bind fun v1=>
 (if 0≤d.2.2 then(if d.2.2<(d.2.1.length:Int)then(d.2.1[d.2.2.toNat]?).bind fun v2=>
 self (d.1,(d.2.1.set d.2.2.toNat v1),(aa .i64 (d.2.2+(1:Int))))else none)else none)else none)else some d.2.1)
def yF(k:Nat)(x0:(List aF)):Option (List aF):=
 (if 0≤(x0.length:Int)then(if(x0.length:Int)≤(x0.length:Int)then(if(x0.length:Int)*16≤(au:Int)then iter k (rF k) (x0,(List.replicate (x0.length:Int).toNat ((0:Int),(0:Int))),(0:Int))else none)else none)else none)
theorem AG(k:Nat)(x0:(List aF)):mX (k+1) (x0)=yF k x0:=by kernel_rfl
def oc(k:Nat)(self:_→Option (List Int))(d:((List Int)×((List Int)×Int))):=
 (bif (decide (d.2.2<(d.1.length:Int)))then(if 0≤d.2.2 then(d.1[d.2.2.toNat]?).bind fun v0=>
 (if 0≤d.2.2 then(if d.2.2<(d.2.1.length:Int)then(d.2.1[d.2.2.toNat]?).bind fun v1=>
 self (d.1,(d.2.1.set d.2.2.toNat v0),(aa .i64 (d.2.2+(1:Int))))else none)else none)else none)else some d.2.1)
def DM(k:Nat)(x0:(List Int)):Option (List Int):=
 (if 0≤(x0.length:Int)then(if(x0.length:Int)≤(x0.length:Int)then(if(x0.length:Int)*8≤(au:Int)then iter k (oc k) (x0,(List.replicate (x0.length:Int).toNat (0:Int)),(0:Int))else none)else none)else none)
theorem Eu(k:Nat)(x0:(List Int)):ml (k+1) (x0)=DM k x0:=by kernel_rfl
def uf(k:Nat)(x0:aj):Option aj:=
 some (x0.1,x0.2.1,x0.2.2)
theorem xI(k:Nat)(x0:aj):gS (k+1) (x0)=uf k x0:=by kernel_rfl
def nC(k:Nat)(self:_→Option (List aj))(d:((List aj)×((List aj)×Int))):=
 (bif (decide (d.2.2<(d.1.length:Int)))then(if 0≤d.2.2 then(d.1[d.2.2.toNat]?).bind fun v0=>
 (gS k v0).bind fun v1=>
 (if 0≤d.2.2 then(if d.2.2<(d.2.1.length:Int)then(d.2.1[d.2.2.toNat]?).bind fun v2=>
 self (d.1,(d.2.1.set d.2.2.toNat v1),(aa .i64 (d.2.2+(1:Int))))else none)else none)else none)else some d.2.1)
def ry(k:Nat)(x0:(List aj)):Option (List aj):=
 (if 0≤(x0.length:Int)then(if(x0.length:Int)≤(x0.length:Int)then(if(x0.length:Int)*24≤(au:Int)then iter k (nC k) (x0,(List.replicate (x0.length:Int).toNat ((0:Int),(0:Int),(0:Int))),(0:Int))else none)else none)else none)
theorem vX(k:Nat)(x0:(List aj)):fV (k+1) (x0)=ry k x0:=by kernel_rfl
def A8(k:Nat)(x0:aA):Option aA:=
 (ml k x0.2.2.2.2.2.2.2.1).bind fun y1=>
 (fV k x0.2.2.2.2.2.2.2.2.1).bind fun y2=>
 (fV k x0.2.2.2.2.2.2.2.2.2).bind fun y3=>
 some (x0.1,x0.2.1,x0.2.2.1,x0.2.2.2.1,x0.2.2.2.2.1,x0.2.2.2.2.2.1,x0.2.2.2.2.2.2.1,y1,y2,y3)
theorem CG(k:Nat)(x0:aA):kr (k+1) (x0)=A8 k x0:=by kernel_rfl
def rq(k:Nat)(self:_→Option (List aA))(d:((List aA)×((List aA)×Int))):=
 (bif (decide (d.2.2<(d.1.length:Int)))then(if 0≤d.2.2 then(d.1[d.2.2.toNat]?).bind fun v0=>
 (kr k v0).bind fun v1=>
 (if 0≤d.2.2 then(if d.2.2<(d.2.1.length:Int)then(d.2.1[d.2.2.toNat]?).bind fun v2=>
 self (d.1,(d.2.1.set d.2.2.toNat v1),(aa .i64 (d.2.2+(1:Int))))else none)else none)else none)else some d.2.1)
def yX(k:Nat)(x0:(List aA)):Option (List aA):=
 (if 0≤(x0.length:Int)then(if(x0.length:Int)≤(x0.length:Int)then(if(x0.length:Int)*128≤(au:Int)then iter k (rq k) (x0,(List.replicate (x0.length:Int).toNat ((0:Int),(0:Int),(0:Int),(0:Int),(0:Int),(0:Int),(0:Int),([]:List Int),([]:List aj),([]:List aj))),(0:Int))else none)else none)else none)
theorem AH(k:Nat)(x0:(List aA)):mZ (k+1) (x0)=yX k x0:=by kernel_rfl
def kK(k:Nat)(self:_→Option (List ByteArray))(d:((List ByteArray)×((List ByteArray)×Int))):=
 (bif (decide (d.2.2<(d.1.length:Int)))then(if 0≤d.2.2 then(d.1[d.2.2.toNat]?).bind fun v0=>
 (if 0≤d.2.2 then(if d.2.2<(d.2.1.length:Int)then(d.2.1[d.2.2.toNat]?).bind fun v1=>
 self (d.1,(d.2.1.set d.2.2.toNat v0),(aa .i64 (d.2.2+(1:Int))))else none)else none)else none)else some d.2.1)
def vC(k:Nat)(x0:(List ByteArray)):Option (List ByteArray):=
 (if 0≤(x0.length:Int)then(if(x0.length:Int)≤(x0.length:Int)then(if(x0.length:Int)*16≤(au:Int)then iter k (kK k) (x0,(List.replicate (x0.length:Int).toNat ByteArray.empty),(0:Int))else none)else none)else none)
theorem zM(k:Nat)(x0:(List ByteArray)):lx (k+1) (x0)=vC k x0:=by kernel_rfl
def ID(k:Nat)(x0:ck):Option ck:=
 (mX k x0.2.1).bind fun y1=>
 (mZ k x0.2.2.1).bind fun y2=>
 (lx k x0.2.2.2).bind fun y3=>
 some (x0.1,y1,y2,y3)
theorem Hu(k:Nat)(x0:ck):kk (k+1) (x0)=ID k x0:=by kernel_rfl
def C9(k:Nat)(x0:aT):Option aT:=
 (ml k x0.2.2).bind fun y1=>
 some (x0.1,x0.2.1,y1)
theorem Eg(k:Nat)(x0:aT):gD (k+1) (x0)=C9 k x0:=by kernel_rfl
def Dg(k:Nat)(x0:Int):Option Bool:=
 (bif (decide ((0:Int)≤x0))then some (decide (x0<(4:Int)))else some false)
theorem D1(k:Nat)(x0:Int):bU (k+1) (x0)=Dg k x0:=by kernel_rfl
def dn(k:Nat)(self:_→Option Bool)(d:((List Int)×((List Int)×aF))):=
 (bif (decide (d.2.2.2<d.2.2.1))then(if 0≤d.2.2.2 then(d.1[d.2.2.2.toNat]?).bind fun v0=>
 (if 0≤d.2.2.2 then(d.2.1[d.2.2.2.toNat]?).bind fun v1=>
 (bif (v0 != v1)then some false else self (d.1,d.2.1,d.2.2.1,(aa .i64 (d.2.2.2+(1:Int)))))else none)else none)else some true)
def mQ(k:Nat)(x0:(List Int))(x1:(List Int)):Option Bool:=
 (bif ((x0.length:Int) != (x1.length:Int))then some false else iter k (dn k) (x0,x1,(x0.length:Int),(0:Int)))
theorem qj(k:Nat)(x0:(List Int))(x1:(List Int)):fM (k+1) (x0,x1)=mQ k x0 x1:=by kernel_rfl
def br(k:Nat)(self:_→Option Bool)(d:((List aj)×((List aj)×aF))):=
 (bif (decide (d.2.2.2<d.2.2.1))then(if 0≤d.2.2.2 then(d.1[d.2.2.2.toNat]?).bind fun v0=>
 (if 0≤d.2.2.2 then(d.2.1[d.2.2.2.toNat]?).bind fun v1=>
 (bif (!((v0.1==v1.1)&&((v0.2.1==v1.2.1)&&(v0.2.2==v1.2.2))))then some false else self (d.1,d.2.1,d.2.2.1,(aa .i64 (d.2.2.2+(1:Int)))))else none)else none)else some true)
def c9(k:Nat)(x0:(List aj))(x1:(List aj)):Option Bool:=
 (bif ((x0.length:Int) != (x1.length:Int))then some false else iter k (br k) (x0,x1,(x0.length:Int),(0:Int)))
theorem fx(k:Nat)(x0:(List aj))(x1:(List aj)):bw (k+1) (x0,x1)=c9 k x0 x1:=by kernel_rfl
def wE(k:Nat)(x0:aA)(x1:aA):Option Bool:=
 (bif (x0.1==x1.1)then(bif (x0.2.1==x1.2.1)then(bif (x0.2.2.1==x1.2.2.1)then(bif (x0.2.2.2.1==x1.2.2.2.1)then(bif (x0.2.2.2.2.1==x1.2.2.2.2.1)then(bif (x0.2.2.2.2.2.1==x1.2.2.2.2.2.1)then(bif (x0.2.2.2.2.2.2.1==x1.2.2.2.2.2.2.1)then(fM k (x0.2.2.2.2.2.2.2.1,x1.2.2.2.2.2.2.2.1)).bind fun y1=>
 (bif y1 then(bw k (x0.2.2.2.2.2.2.2.2.1,x1.2.2.2.2.2.2.2.2.1)).bind fun y2=>
 (bif y2 then(bw k (x0.2.2.2.2.2.2.2.2.2,x1.2.2.2.2.2.2.2.2.2)).bind fun y3=>
 some y3 else some false)else some false)else some false)else some false)else some false)else some false)else some false)else some false)else some false)
theorem z6(k:Nat)(x0:aA)(x1:aA):lF (k+1) (x0,x1)=wE k x0 x1:=by kernel_rfl
def C5(k:Nat)(x0:Int):Option Bool:=
 (bif (decide ((0:Int)≤x0))then some (decide (x0≤(2047:Int)))else some false)
theorem Eo(k:Nat)(x0:Int):jh (k+1) (x0)=C5 k x0:=by kernel_rfl
def pk(k:Nat)(x0:Int):Option Int:=
 (bif (decide (x0≤(0:Int)))then some (0:Int)else(if((32:Int):Int)≠0 then some (aa .i64 ((aa .i64 ((aa .i64 (x0-(1:Int))).tdiv (32:Int)))+(1:Int)))else none))
theorem uB(k:Nat)(x0:Int):jg (k+1) (x0)=pk k x0:=by kernel_rfl
def gC(k:Nat)(self:_→Option Int)(d:(Int×((List Int)×aF))):=
 (bif (decide (d.2.2.2<d.2.2.1))then(if 0≤d.2.2.2 then(d.2.1[d.2.2.2.toNat]?).bind fun v0=>
 (bif (v0 != d.1)then some v0 else self (d.1,d.2.1,d.2.2.1,(aa .i64 (d.2.2.2+(1:Int)))))else none)else some d.1)
def GG(k:Nat)(x0:(List Int)):Option Int:=
 iter k (gC k) ((0:Int),x0,(x0.length:Int),(0:Int))
theorem EW(k:Nat)(x0:(List Int)):tc (k+1) (x0)=GG k x0:=by kernel_rfl
def cmp_isNaN_int(k:Nat)(x0:Int):Option Bool:=
 some (x0 != x0)
theorem BP(k:Nat)(x0:Int):jA (k+1) (x0)=cmp_isNaN_int k x0:=by kernel_rfl
def cmp_Compare_int(k:Nat)(x0:Int)(x1:Int):Option Int:=
 (jA k x0).bind fun y1=>
 (jA k x1).bind fun y2=>
 (bif y1 then(bif y2 then some (0:Int)else some (-1:Int))else(bif y2 then some (1:Int)else(bif (decide (x0<x1))then some (-1:Int)else(bif (decide (x1<x0))then some (1:Int)else some (0:Int)))))
theorem xv(k:Nat)(x0:Int)(x1:Int):gZ (k+1) (x0,x1)=cmp_Compare_int k x0 x1:=by kernel_rfl
def lZ(k:Nat)(self:_→Option Bool)(d:((List aj)×((List aj)×aF))):=
 (bif (decide (d.2.2.2<d.2.2.1))then(if 0≤d.2.2.2 then(d.2.1[d.2.2.2.toNat]?).bind fun v0=>
 (bif (decide (v0.2.2<(0:Int)))then some false else(bif (decide ((7:Int)<v0.2.2))then some false else(oY (R:=Bool) ((bif (v0.1==(1:Int))then(bif (v0.1==(1:Int))then(bU k v0.2.1).bind fun v1=>
 (bif (!v1)then((some false).map .inr)else some (.inl (d.1,d.2.2.2,(),d.2.1,d.2.2.1,d.2.2.2,v0)))else(bif (v0.1==(3:Int))then(bif (v0.2.1 != (0:Int))then((some false).map .inr)else some (.inl (d.1,d.2.2.2,(),d.2.1,d.2.2.1,d.2.2.2,v0)))else((some false).map .inr)))else(bif (v0.1==(2:Int))then(bU k v0.2.1).bind fun v2=>
 (bif (!v2)then((some false).map .inr)else some (.inl (d.1,d.2.2.2,(),d.2.1,d.2.2.1,d.2.2.2,v0)))else(bif (v0.1==(3:Int))then(bif (v0.2.1 != (0:Int))then((some false).map .inr)else some (.inl (d.1,d.2.2.2,(),d.2.1,d.2.2.1,d.2.2.2,v0)))else((some false).map .inr))))) fun(v3:((List aj)×(Int×(Unit×((List aj)×(Int×(Int×aj)))))))=>let e0:=v3.2.2.2.2;(bif (decide ((0:Int)<v3.2.1))then(if 0≤(aa .i64 (v3.2.1-(1:Int)))then(v3.1[(aa .i64 (v3.2.1-(1:Int))).toNat]?).bind fun v4=>
 (gZ k (v4.1,e0.2.2.1)).bind fun v5=>
 (if 0≤(aa .i64 (v3.2.1-(1:Int)))then(v3.1[(aa .i64 (v3.2.1-(1:Int))).toNat]?).bind fun v6=>
 (gZ k (v6.2.1,e0.2.2.2.1)).bind fun v7=>
 (tc k ([v5,v7]:List Int)).bind fun v8=>
 (bif (decide ((0:Int)≤v8))then some false else self (v3.1,v3.2.2.2.1,e0.1,(aa .i64 (e0.2.1+(1:Int)))))else none)else none)else self (v3.1,v3.2.2.2.1,e0.1,(aa .i64 (e0.2.1+(1:Int))))))))else none)else(bif ((d.1.length:Int)==(0:Int))then some true else(if 0≤(aa .i64 ((d.1.length:Int)-(1:Int)))then(d.1[(aa .i64 ((d.1.length:Int)-(1:Int))).toNat]?).bind fun v9=>
 some (v9.1==(3:Int))else none)))
def FQ(k:Nat)(x0:(List aj)):Option Bool:=
 (bif (decide ((6:Int)<(x0.length:Int)))then some false else iter k (lZ k) (x0,x0,(x0.length:Int),(0:Int)))
theorem Fc(k:Nat)(x0:(List aj)):iL (k+1) (x0)=FQ k x0:=by kernel_rfl
def dq(k:Nat)(self:_→Option Int)(d:((List Int)×aj)):=
 (bif (decide (d.2.2.2<d.2.2.1))then(if 0≤d.2.2.2 then(d.1[d.2.2.2.toNat]?).bind fun v0=>
 (bif (d.2.1==v0)then some d.2.2.2 else self (d.1,d.2.1,d.2.2.1,(aa .i64 (d.2.2.2+(1:Int)))))else none)else some (-1:Int))
def mN(k:Nat)(x0:(List Int))(x1:Int):Option Int:=
 iter k (dq k) (x0,x1,(x0.length:Int),(0:Int))
theorem p7(k:Nat)(x0:(List Int))(x1:Int):fF (k+1) (x0,x1)=mN k x0 x1:=by kernel_rfl
def kj(k:Nat)(x0:(List Int))(x1:Int):Option Bool:=
 (fF k (x0,x1)).bind fun y1=>
 some (decide ((0:Int)≤y1))
theorem nO(k:Nat)(x0:(List Int))(x1:Int):c7 (k+1) (x0,x1)=kj k x0 x1:=by kernel_rfl
def jv(k:Nat)(self:_→Option Bool)(d:(Unit×((List Int)×(Int×(Int×aA))))):=
 let e0:=d.2.2.2.2
 (bif (decide (d.2.2.2.1<d.2.2.1))then(if 0≤d.2.2.2.1 then(d.2.1[d.2.2.2.1.toNat]?).bind fun v0=>
 (bif (v0 != (-1:Int))then(bif (decide (v0<(0:Int)))then some false else(bif (decide ((999:Int)<v0))then some false else(if 0≤d.2.2.2.1 then(if d.2.2.2.1≤(e0.2.2.2.2.2.2.2.1.length:Int)then(c7 k (((e0.2.2.2.2.2.2.2.1.take d.2.2.2.1.toNat).drop 0),v0)).bind fun v1=>
 (bif v1 then some false else self ((),d.2.1,d.2.2.1,(aa .i64 (d.2.2.2.1+(1:Int))),e0))else none)else none)))else self ((),d.2.1,d.2.2.1,(aa .i64 (d.2.2.2.1+(1:Int))),e0))else none)else(bif (e0.1==(2:Int))then some true else(bif ((e0.2.2.2.2.2.2.2.2.2.length:Int)==(0:Int))then some ((intBits .and .i64 e0.2.1 (512:Int))==(0:Int))else some false)))
def BF(k:Nat)(x0:aA):Option Bool:=
 (oY (R:=Bool) ((bif (x0.1==(0:Int))then(lF k (x0,((0:Int),(0:Int),(0:Int),(0:Int),(0:Int),(0:Int),(0:Int),([]:List Int),([]:List aj),([]:List aj)))).bind fun y2=>
 ((some y2).map .inr)else(bif (x0.1==(1:Int))then(bif (x0.1==(1:Int))then some (.inl ((),x0))else((some false).map .inr))else(bif (x0.1==(2:Int))then some (.inl ((),x0))else((some false).map .inr))))) fun(d1:(Unit×aA))=>let e0:=d1.2.2.2.2;let e1:=e0.2.2.2.2;(jh k d1.2.2.1).bind fun y3=>
 (bif (!y3)then some false else(bU k d1.2.2.2.1).bind fun y4=>
 (bif (!y4)then some false else(bU k e0.1).bind fun y5=>
 (bif (!y5)then some false else(bif (decide (e0.2.1<(0:Int)))then some false else(bif (decide ((1000:Int)<e0.2.1))then some false else(bif (decide (e0.2.2.1<(0:Int)))then some false else(bif (decide ((256:Int)<e0.2.2.1))then some false else(bif (decide (e0.2.2.2.1<(0:Int)))then some false else(bif (decide ((1000000000:Int)<e0.2.2.2.1))then some false else(jg k e0.2.2.1).bind fun y6=>
 (bif ((e1.1.length:Int) != y6)then some false else(iL k e1.2.1).bind fun y7=>
 (bif (!y7)then some false else(iL k e1.2.2).bind fun y8=>
 (bif (!y8)then some false else iter k (jv k) ((),e1.1,(e1.1.length:Int),(0:Int),d1.2))))))))))))))
theorem B4(k:Nat)(x0:aA):nV (k+1) (x0)=BF k x0:=by kernel_rfl
def tB(k:Nat)(x0:Int):Option Int:=
 (bif (decide (x0<(0:Int)))then some (-1:Int)else(bif (decide ((56:Int)≤x0))then some (-1:Int)else(if((14:Int):Int)≠0 then some (aa .i64 (x0.tdiv (14:Int)))else none)))
theorem xD(k:Nat)(x0:Int):kG (k+1) (x0)=tB k x0:=by kernel_rfl
def iF(k:Nat)(self:_→Option Bool)(d:(ByteArray×aF)):=
 (bif (decide (d.2.2<d.2.1))then(if 0≤d.2.2 then((d.1[d.2.2.toNat]?.map fun v0=>(v0.toNat:Int))).bind fun v1=>
 (bif (v1 != (0:Int))then some false else self (d.1,d.2.1,(aa .i64 (d.2.2+(1:Int)))))else none)else some true)
def yq(k:Nat)(x0:ByteArray):Option Bool:=
 iter k (iF k) (x0,(x0.size:Int),(0:Int))
theorem A3(k:Nat)(x0:ByteArray):jF (k+1) (x0)=yq k x0:=by kernel_rfl
def kE(k:Nat)(a0:_→Option Bool)(self:_→Option Bool)(d:(Unit×(Unit×(Unit×((List aA)×(Int×(Int×((List Int)×(Int×(Int×(aA×((List Bool)×ck)))))))))))):=
 let e0:=d.2.2.2.2
 let e1:=e0.2.2.2.2
 (bif (decide (e1.1<e0.2.2.2.1))then(if 0≤e1.1 then(e0.2.2.1[e1.1.toNat]?).bind fun v0=>
 (bif (v0==(-1:Int))then self ((),(),(),d.2.2.2.1,e0.1,e0.2.1,e0.2.2.1,e0.2.2.2.1,(aa .i64 (e1.1+(1:Int))),e1.2.1,e1.2.2.1,e1.2.2.2)else(kG k v0).bind fun v1=>
 (bif (v1 != e1.2.1.2.2.1)then some false else(if 0≤v0 then(if v0<(56:Int)then(e1.2.2.1[v0.toNat]?).bind fun v2=>
 (bif v2 then some false else(if 0≤v0 then(if v0<(56:Int)then(e1.2.2.1[v0.toNat]?).bind fun v3=>
 (bif (decide ((aa .i64 (e1.2.1.2.2.2.2.2.1-(aa .i64 (e1.1*(32:Int)))))<(32:Int)))then(if 0≤v0 then(e1.2.2.2.2.2.2[v0.toNat]?).bind fun v4=>
 (if 0≤(aa .i64 (e1.2.1.2.2.2.2.2.1-(aa .i64 (e1.1*(32:Int)))))then(if(aa .i64 (e1.2.1.2.2.2.2.2.1-(aa .i64 (e1.1*(32:Int)))))≤(v4.size:Int)then(jF k (v4.extract ((aa .i64 (e1.2.1.2.2.2.2.2.1-(aa .i64 (e1.1*(32:Int))))).toNat) v4.size)).bind fun v5=>
 (bif (!v5)then some false else self ((),(),(),d.2.2.2.1,e0.1,e0.2.1,e0.2.2.1,e0.2.2.2.1,(aa .i64 (e1.1+(1:Int))),e1.2.1,(e1.2.2.1.set v0.toNat true),e1.2.2.2))else none)else none)else none)else self ((),(),(),d.2.2.2.1,e0.1,e0.2.1,e0.2.2.1,e0.2.2.2.1,(aa .i64 (e1.1+(1:Int))),e1.2.1,(e1.2.2.1.set v0.toNat true),e1.2.2.2))else none)else none))else none)else none)))else none)else a0 ((),(),d.2.2.2.1,e0.1,(aa .i64 (e0.2.1+(1:Int))),e1.2.2.1,e1.2.2.2))
def iB(k:Nat)(self:_→Option Bool)(d:(Unit×(Unit×((List ByteArray)×(Int×(Int×((List Bool)×ck))))))):=
 let e0:=d.2.2.2.2
 (bif (decide (e0.1<d.2.2.2.1))then(if 0≤e0.1 then(d.2.2.1[e0.1.toNat]?).bind fun v0=>
 (if 0≤e0.1 then(if e0.1<(56:Int)then(e0.2.1[e0.1.toNat]?).bind fun v1=>
 (bif (!v1)then(jF k v0).bind fun v2=>
 (bif (!v2)then some false else self ((),(),d.2.2.1,d.2.2.2.1,(aa .i64 (e0.1+(1:Int))),e0.2.1,e0.2.2))else self ((),(),d.2.2.1,d.2.2.2.1,(aa .i64 (e0.1+(1:Int))),e0.2.1,e0.2.2))else none)else none)else none)else(if 0≤(0:Int)then(e0.2.2.2.2.1[(0:Int).toNat]?).bind fun v3=>
 some (v3.1==(2:Int))else none))
def jc(k:Nat)(self:_→Option Bool)(d:(Unit×(Unit×((List aA)×(Int×(Int×((List Bool)×ck))))))):=
 let e0:=d.2.2.2.2
 (bif (decide (e0.1<d.2.2.2.1))then(if 0≤e0.1 then(d.2.2.1[e0.1.toNat]?).bind fun v0=>
 (nV k v0).bind fun v1=>
 (bif (!v1)then some false else iter k (kE k self) ((),(),(),d.2.2.1,d.2.2.2.1,e0.1,v0.2.2.2.2.2.2.2.1,(v0.2.2.2.2.2.2.2.1.length:Int),(0:Int),v0,e0.2.1,e0.2.2))else none)else iter k (iB k) ((),(),e0.2.2.2.2.2,(e0.2.2.2.2.2.length:Int),(0:Int),e0.2.1,e0.2.2))
def kD(k:Nat)(self:_→Option Bool)(d:(Unit×((List ByteArray)×(Int×(Int×ck))))):=
 let e0:=d.2.2.2.2
 (bif (decide (d.2.2.2.1<d.2.2.1))then(if 0≤d.2.2.2.1 then(d.2.1[d.2.2.2.1.toNat]?).bind fun v0=>
 (bif ((v0.size:Int) != (32:Int))then some false else self ((),d.2.1,d.2.2.1,(aa .i64 (d.2.2.2.1+(1:Int))),e0))else none)else iter k (jc k) ((),(),e0.2.2.1,(e0.2.2.1.length:Int),(0:Int),(List.replicate 56 false),e0))
def nL(k:Nat)(self:_→Option Bool)(d:(Unit×((List aF)×(Int×(Int×ck))))):=
 let e0:=d.2.2.2.2
 (bif (decide (d.2.2.2.1<d.2.2.1))then(if 0≤d.2.2.2.1 then(d.2.1[d.2.2.2.1.toNat]?).bind fun v0=>
 (bif (decide (v0.1<(0:Int)))then some false else(bif (decide ((5:Int)<v0.1))then some false else(bif (decide (v0.2<(0:Int)))then some false else(bif (decide ((14:Int)<v0.2))then some false else self ((),d.2.1,d.2.2.1,(aa .i64 (d.2.2.2.1+(1:Int))),e0)))))else none)else iter k (kD k) ((),e0.2.2.2,(e0.2.2.2.length:Int),(0:Int),e0))
def Ih(k:Nat)(x0:ck):Option Bool:=
 (bif (decide (x0.1<(0:Int)))then some false else(bif (decide ((1000000000:Int)<x0.1))then some false else(bif ((x0.2.1.length:Int) != (4:Int))then some false else(bif ((x0.2.2.1.length:Int) != (20:Int))then some false else(bif ((x0.2.2.2.length:Int) != (56:Int))then some false else iter k (nL k) ((),x0.2.1,(x0.2.1.length:Int),(0:Int),x0))))))
theorem Hv(k:Nat)(x0:ck):kf (k+1) (x0)=Ih k x0:=by kernel_rfl
def kS(k:Nat)(self:_→Option Bool)(d:(Unit×((List Int)×(Int×(Int×aT))))):=
 let e0:=d.2.2.2.2
 (bif (decide (d.2.2.2.1<d.2.2.1))then(if 0≤d.2.2.2.1 then(d.2.1[d.2.2.2.1.toNat]?).bind fun v0=>
 (bU k v0).bind fun v1=>
 (bif (!v1)then some false else(bif (decide ((0:Int)<d.2.2.2.1))then(if 0≤(aa .i64 (d.2.2.2.1-(1:Int)))then(e0.2.2[(aa .i64 (d.2.2.2.1-(1:Int))).toNat]?).bind fun v2=>
 (bif (decide (v0≤v2))then some false else self ((),d.2.1,d.2.2.1,(aa .i64 (d.2.2.2.1+(1:Int))),e0))else none)else self ((),d.2.1,d.2.2.1,(aa .i64 (d.2.2.2.1+(1:Int))),e0)))else none)else(bU k e0.1).bind fun v3=>
 (bif v3 then(bU k e0.2.1).bind fun v4=>
 some v4 else some false))
def DD(k:Nat)(x0:aT):Option Bool:=
 iter k (kS k) ((),x0.2.2,(x0.2.2.length:Int),(0:Int),x0)
theorem Et(k:Nat)(x0:aT):gB (k+1) (x0)=DD k x0:=by kernel_rfl
def C6(k:Nat)(x0:(Option ck))(x1:Int):Option Bool:=
 (bif (decide ((0:Int)≤x1))then(bif (decide (x1<(20:Int)))then(x0).bind fun y1=>
 (if 0≤x1 then(y1.2.2.1[x1.toNat]?).bind fun y2=>
 some (y2.1 != (0:Int))else none)else some false)else some false)
theorem El(k:Nat)(x0:(Option ck))(x1:Int):jo (k+1) (x0,x1)=C6 k x0 x1:=by kernel_rfl
def C4(k:Nat)(x0:Int)(x1:Int):Option Int:=
 (jh k x0).bind fun y1=>
 (bif (!y1)then some (0:Int)else(bif (decide (x1<(0:Int)))then some (0:Int)else(bif (decide ((2:Int)<x1))then some (0:Int)else(if 0≤(aa .i64 ((6:Int)-(aa .i64 ((3:Int)*x1))))then some (intBits .and .i64 (x0.fdiv (2 ^(min (aa .i64 ((6:Int)-(aa .i64 ((3:Int)*x1)))).toNat (IntKind.bits .i64)))) (7:Int))else none))))
theorem D0(k:Nat)(x0:Int)(x1:Int):ji (k+1) (x0,x1)=C4 k x0 x1:=by kernel_rfl
def kV(k:Nat)(self:_→Option Int)(d:((List aj)×aF)):=
 (bif (decide (d.2.2<d.2.1))then(if 0≤d.2.2 then(d.1[d.2.2.toNat]?).bind fun v0=>
 (bif (v0.1==(3:Int))then some v0.2.2 else self (d.1,d.2.1,(aa .i64 (d.2.2+(1:Int)))))else none)else some (7:Int))
def vR(k:Nat)(x0:(List aj)):Option Int:=
 iter k (kV k) (x0,(x0.length:Int),(0:Int))
theorem D3(k:Nat)(x0:(List aj)):p8 (k+1) (x0)=vR k x0:=by kernel_rfl
def jC(k:Nat)(self:_→Option (Int×Bool))(d:(Int×(Int×((List aj)×aF)))):=
 let e0:=d.2.2.2.2
 (bif (decide (e0<d.2.2.2.1))then(if 0≤e0 then(d.2.2.1[e0.toNat]?).bind fun v0=>
 (bif (v0.1==d.1)then(bif (v0.2.1==d.2.1)then some (v0.2.2,true)else self (d.1,d.2.1,d.2.2.1,d.2.2.2.1,(aa .i64 (e0+(1:Int)))))else self (d.1,d.2.1,d.2.2.1,d.2.2.2.1,(aa .i64 (e0+(1:Int)))))else none)else some ((0:Int),false))
def sW(k:Nat)(x0:(List aj))(x1:Int)(x2:Int):Option (Int×Bool):=
 iter k (jC k) (x1,x2,x0,(x0.length:Int),(0:Int))
theorem Ce(k:Nat)(x0:(List aj))(x1:Int)(x2:Int):ou (k+1) (x0,x1,x2)=sW k x0 x1 x2:=by kernel_rfl
def Be(k:Nat)(x0:aT)(x1:Int):Option Bool:=
 (bif (x1==x0.2.1)then some true else(c7 k (x0.2.2,x1)).bind fun y1=>
 some y1)
theorem BZ(k:Nat)(x0:aT)(x1:Int):kW (k+1) (x0,x1)=Be k x0 x1:=by kernel_rfl
def eC(k:Nat)(self:_→Option Bool)(d:(Unit×(Unit×(Int×(Int×((List Int)×(Int×aT))))))):=
 let e0:=d.2.2.2.2
 (bif (decide (d.2.2.2.1<d.2.2.1))then(if 0≤d.2.2.2.1 then(if d.2.2.2.1<(e0.1.length:Int)then(e0.1[d.2.2.2.1.toNat]?).bind fun v0=>
 (bif ((intBits .and .i64 v0 e0.2.1)==e0.2.1)then some (decide ((0:Int)≤d.2.2.2.1))else self ((),(),d.2.2.1,(aa .i64 (d.2.2.2.1+(1:Int))),e0.1,e0.2.1,e0.2.2))else none)else none)else some (decide ((0:Int)≤(-1:Int))))
def gm(k:Nat)(self:_→Option Bool)(d:(Int×(Unit×(Unit×(Int×((List Int)×((List aj)×(Int×(Int×(Int×aT)))))))))):=
 let e0:=d.2.2.2.2
 let e1:=e0.2.2.2.2
 (bif (decide (e0.2.2.2.1<e0.2.2.1))then(if 0≤e0.2.2.2.1 then(e0.2.1[e0.2.2.2.1.toNat]?).bind fun v0=>
 (bif (v0.1==(2:Int))then(kW k (e1.2,v0.2.1)).bind fun v1=>
 (bif v1 then(if(e0.1.length+([v0.2.2]:List Int).length)*8≤au then self (d.1,(),(),d.2.2.2.1,(e0.1++([v0.2.2]:List Int)),e0.2.1,e0.2.2.1,(aa .i64 (e0.2.2.2.1+(1:Int))),e1.1,e1.2)else none)else self (d.1,(),(),d.2.2.2.1,e0.1,e0.2.1,e0.2.2.1,(aa .i64 (e0.2.2.2.1+(1:Int))),e1.1,e1.2))else self (d.1,(),(),d.2.2.2.1,e0.1,e0.2.1,e0.2.2.1,(aa .i64 (e0.2.2.2.1+(1:Int))),e1.1,e1.2))else none)else(bif (decide ((0:Int)<(e0.1.length:Int)))then(bif ((intBits .and .i64 d.2.2.2.1 e1.1)==e1.1)then iter k (eC k) ((),(),(e0.1.length:Int),(0:Int),e0.1,e1.1,e1.2)else some false)else(ji k (d.1,(2:Int))).bind fun v2=>
 some ((intBits .and .i64 v2 e1.1)==e1.1)))
def sX(k:Nat)(x0:aT)(x1:Int)(x2:Int)(x3:Int)(x4:(List aj))(x5:Int):Option Bool:=
 (gB k x0).bind fun y1=>
 (bif (!y1)then some false else(iL k x4).bind fun y2=>
 (bif (!y2)then some false else(bU k x1).bind fun y3=>
 (bif (!y3)then some false else(bU k x2).bind fun y4=>
 (bif (!y4)then some false else(jh k x3).bind fun y5=>
 (bif (!y5)then some false else(bif (decide (x5<(0:Int)))then some false else(bif (decide ((7:Int)<x5))then some false else(bif (x0.1==(0:Int))then some true else(bif (x0.1==x1)then(ji k (x3,(0:Int))).bind fun y6=>
 some ((intBits .and .i64 y6 x5)==x5)else(p8 k x4).bind fun y7=>
 (ou k (x4,(1:Int),x0.1)).bind fun y8=>
 (bif y8.2 then some ((intBits .and .i64 (intBits .and .i64 y8.1 y7) x5)==x5)else(oY (R:=Bool) ((kW k (x0,x2)).bind fun y10=>
 (bif y10 then(ji k (x3,(1:Int))).bind fun y11=>
 (if(([]:List Int).length+([y11]:List Int).length)*8≤au then some (.inl (x3,x4,(),(),y7,(([]:List Int)++([y11]:List Int)),x5,x0))else none)else some (.inl (x3,x4,(),(),y7,([]:List Int),x5,x0)))) fun(d9:(Int×((List aj)×(Unit×(Unit×(Int×((List Int)×(Int×aT))))))))=>let e0:=d9.2.2.2.2;iter k (gm k) (d9.1,(),(),e0.1,e0.2.1,d9.2.1,(d9.2.1.length:Int),(0:Int),e0.2.2.1,e0.2.2.2))))))))))))
theorem rM(k:Nat)(x0:aT)(x1:Int)(x2:Int)(x3:Int)(x4:(List aj))(x5:Int):n9 (k+1) (x0,x1,x2,x3,x4,x5)=sX k x0 x1 x2 x3 x4 x5:=by kernel_rfl
def Dq(k:Nat)(x0:(Option ck))(x1:aT)(x2:Int)(x3:Int):Option Bool:=
 (jo k (x0,x2)).bind fun y1=>
 (bif (!y1)then some false else(x0).bind fun y2=>
 (if 0≤x2 then(y2.2.2.1[x2.toNat]?).bind fun y3=>
 (n9 k (x1,y3.2.2.1,y3.2.2.2.1,y3.2.1,y3.2.2.2.2.2.2.2.2.1,x3)).bind fun y4=>
 some y4 else none))
theorem Eh(k:Nat)(x0:(Option ck))(x1:aT)(x2:Int)(x3:Int):jn (k+1) (x0,x1,x2,x3)=Dq k x0 x1 x2 x3:=by kernel_rfl
def yQ(k:Nat)(x0:(Option ck))(x1:Int):Option Bool:=
 (jo k (x0,x1)).bind fun y1=>
 (bif y1 then(x0).bind fun y2=>
 (if 0≤x1 then(y2.2.2.1[x1.toNat]?).bind fun y3=>
 some (y3.1==(2:Int))else none)else some false)
theorem As(k:Nat)(x0:(Option ck))(x1:Int):jx (k+1) (x0,x1)=yQ k x0 x1:=by kernel_rfl
def FM(k:Nat)(x0:Int):Option ByteArray:=
 (if 0≤x0 then(if x0≤x0 then(if x0*1≤(au:Int)then some (ofBytes (List.replicate x0.toNat (0:Int)))else none)else none)else none)
theorem Gw(k:Nat)(x0:Int):tg (k+1) (x0)=FM k x0:=by kernel_rfl
def fS(k:Nat)(self:_→Option ByteArray)(d:((Option ck)×(Unit×(ByteArray×((List Int)×(Int×(Int×aA))))))):=
 let e0:=d.2.2.2.2
 (bif (decide (e0.2.1<e0.1))then(if 0≤e0.2.1 then(d.2.2.2.1[e0.2.1.toNat]?).bind fun v0=>
 (bif (v0==(-1:Int))then(tg k (32:Int)).bind fun v1=>
 (if d.2.2.1.size+v1.size≤9223372036854775807 then self (d.1,(),(d.2.2.1++v1),d.2.2.2.1,e0.1,(aa .i64 (e0.2.1+(1:Int))),e0.2.2)else none)else(d.1).bind fun v2=>
 (if 0≤v0 then(v2.2.2.2[v0.toNat]?).bind fun v3=>
 (if d.2.2.1.size+v3.size≤9223372036854775807 then self (d.1,(),(d.2.2.1++v3),d.2.2.2.1,e0.1,(aa .i64 (e0.2.1+(1:Int))),e0.2.2)else none)else none))else none)else(if 0≤e0.2.2.2.2.2.2.2.1 then(if e0.2.2.2.2.2.2.2.1≤(d.2.2.1.size:Int)then some (d.2.2.1.extract 0 e0.2.2.2.2.2.2.2.1.toNat)else none)else none))
def tL(k:Nat)(x0:(Option ck))(x1:Int):Option ByteArray:=
 (x0).bind fun y1=>
 (if 0≤x1 then(y1.2.2.1[x1.toNat]?).bind fun y2=>
 iter k (fS k) (x0,(),(⟨#[]⟩:ByteArray),y2.2.2.2.2.2.2.2.1,(y2.2.2.2.2.2.2.2.1.length:Int),(0:Int),y2)else none)
theorem xJ(k:Nat)(x0:(Option ck))(x1:Int):gR (k+1) (x0,x1)=tL k x0 x1:=by kernel_rfl
def rY(k:Nat)(x0:ByteArray):Option Bool:=
 (bif (decide ((1:Int)≤(x0.size:Int)))then(bif (decide ((x0.size:Int)≤(12:Int)))then(gE k (x0,(⟨#[0,47]⟩:ByteArray))).bind fun y1=>
 (bif (!y1)then(bif (!(EJ x0 (⟨#[46]⟩:ByteArray)))then some (!(EJ x0 (⟨#[46,46]⟩:ByteArray)))else some false)else some false)else some false)else some false)
theorem vz(k:Nat)(x0:ByteArray):jV (k+1) (x0)=rY k x0:=by kernel_rfl
def lf(k:Nat)(self:_→Option (List ByteArray))(d:(ByteArray×(Int×(List ByteArray)))):=
 (bif (decide ((0:Int)<(d.1.size:Int)))then(if 0≤(min d.2.1 (d.1.size:Int))then(if(min d.2.1 (d.1.size:Int))≤(d.1.size:Int)then(if(d.2.2.length+([(d.1.extract 0 ((min d.2.1 (d.1.size:Int)).toNat))]:List ByteArray).length)*16≤au then(if 0≤(min d.2.1 (d.1.size:Int))then(if(min d.2.1 (d.1.size:Int))≤(d.1.size:Int)then self ((d.1.extract ((min d.2.1 (d.1.size:Int)).toNat) d.1.size),d.2.1,(d.2.2++([(d.1.extract 0 ((min d.2.1 (d.1.size:Int)).toNat))]:List ByteArray)))else none)else none)else none)else none)else none)else some d.2.2)
def C1(k:Nat)(x0:ByteArray)(x1:Int):Option (List ByteArray):=
 (bif (decide (x1<(1:Int)))then some ([]:List ByteArray)else(bif (decide ((1000:Int)<x1))then some ([]:List ByteArray)else iter k (lf k) (x0,x1,([]:List ByteArray))))
theorem Ed(k:Nat)(x0:ByteArray)(x1:Int):qq (k+1) (x0,x1)=C1 k x0 x1:=by kernel_rfl
def gY(k:Nat)(self:_→Option (Int×Bool))(d:(ByteArray×(Int×aj))):=
 let e0:=d.2.2.2.2
 (bif (decide (e0<d.2.2.2.1))then(if 0≤(8:Int)then(if 0≤(aa .i64 (d.2.1+e0))then((d.1[(aa .i64 (d.2.1+e0)).toNat]?.map fun v0=>(v0.toNat:Int))).bind fun v1=>
 self (d.1,d.2.1,(intBits .or .i64 (aa .i64 (d.2.2.1*2 ^(min (8:Int).toNat (IntKind.bits .i64)))) (aa .i64 v1)),d.2.2.2.1,(aa .i64 (e0+(1:Int))))else none)else none)else some (d.2.2.1,true))
def uR(k:Nat)(x0:ByteArray)(x1:Int)(x2:Int):Option (Int×Bool):=
 (bif (decide (x2<(1:Int)))then some ((0:Int),false)else(bif (decide ((6:Int)<x2))then some ((0:Int),false)else(bif (decide (x1<(0:Int)))then some ((0:Int),false)else(bif (decide ((aa .i64 ((x0.size:Int)-x2))<x1))then some ((0:Int),false)else iter k (gY k) (x0,x1,(0:Int),x2,(0:Int))))))
theorem zc(k:Nat)(x0:ByteArray)(x1:Int)(x2:Int):lN (k+1) (x0,x1,x2)=uR k x0 x1 x2:=by kernel_rfl
def Fj(k:Nat)(x0:ByteArray)(x1:Int):Option ByteArray:=
 (bif (decide (x1≤(x0.size:Int)))then some x0 else(bif (decide ((100000:Int)<x1))then some (⟨#[]⟩:ByteArray)else(rR k ((⟨#[0]⟩:ByteArray),(aa .i64 (x1-(x0.size:Int))))).bind fun y1=>
 (if x0.size+y1.size≤9223372036854775807 then some (x0++y1)else none)))
theorem GQ(k:Nat)(x0:ByteArray)(x1:Int):th (k+1) (x0,x1)=Fj k x0 x1:=by kernel_rfl
def hJ(k:Nat)(self:_→Option ByteArray)(d:(Int×((List Int)×Int))):=
 (bif (decide ((0:Int)≤d.2.2))then(if 0≤d.2.2 then(if d.2.2<(d.2.1.length:Int)then(d.2.1[d.2.2.toNat]?).bind fun v0=>
 (if 0≤(8:Int)then self ((d.1.fdiv (2 ^(min (8:Int).toNat (IntKind.bits .i64)))),(d.2.1.set d.2.2.toNat (aa .u8 d.1)),(aa .i64 (d.2.2-(1:Int))))else none)else none)else none)else some (ofBytes d.2.1))
def vr(k:Nat)(x0:Int)(x1:Int):Option ByteArray:=
 (bif (decide (x1<(1:Int)))then some (⟨#[]⟩:ByteArray)else(bif (decide ((6:Int)<x1))then some (⟨#[]⟩:ByteArray)else(bif (decide (x0<(0:Int)))then some (⟨#[]⟩:ByteArray)else(if 0≤(aa .i64 ((8:Int)*x1))then(bif (decide ((aa .i64 ((1:Int)*2 ^(min (aa .i64 ((8:Int)*x1)).toNat (IntKind.bits .i64))))≤x0))then some (⟨#[]⟩:ByteArray)else(if 0≤x1 then(if x1≤x1 then(if x1*1≤(au:Int)then iter k (hJ k) (x0,(List.replicate x1.toNat (0:Int)),(aa .i64 (x1-(1:Int))))else none)else none)else none))else none))))
theorem zL(k:Nat)(x0:Int)(x1:Int):iG (k+1) (x0,x1)=vr k x0 x1:=by kernel_rfl
def DN(k:Nat)(x0:ar):Option ByteArray:=
 (iG k ((aa .i64 (x0.2+(1:Int))),(2:Int))).bind fun y1=>
 (iG k ((x0.1.size:Int),(1:Int))).bind fun y2=>
 (if y1.size+y2.size≤9223372036854775807 then(if(y1++y2).size+x0.1.size≤9223372036854775807 then(th k (((y1++y2)++x0.1),(16:Int))).bind fun y3=>
 some y3 else none)else none)
theorem Ej(k:Nat)(x0:ar):qb (k+1) (x0)=DN k x0:=by kernel_rfl
def dY(k:Nat)(self:_→Option (List ar))(d:((List ar)×((List ByteArray)×aF))):=
 (bif (decide (d.2.2.2<d.2.2.1))then(if 0≤d.2.2.2 then(if d.2.2.2<(d.2.1.length:Int)then(d.2.1[d.2.2.2.toNat]?).bind fun v0=>
 (bif (decide ((v0.size:Int)<(16:Int)))then self (d.1,d.2.1,d.2.2.1,(aa .i64 (d.2.2.2+(1:Int))))else(if 0≤(2:Int)then((v0[(2:Int).toNat]?.map fun v1=>(v1.toNat:Int))).bind fun v2=>
 (bif (decide ((12:Int)<(aa .i64 v2)))then self (d.1,d.2.1,d.2.2.1,(aa .i64 (d.2.2.2+(1:Int))))else(lN k (v0,(0:Int),(2:Int))).bind fun v3=>
 (if 0≤(2:Int)then((v0[(2:Int).toNat]?.map fun v1=>(v1.toNat:Int))).bind fun v4=>
 (if 0≤(aa .i64 ((3:Int)+(aa .i64 v4)))then(if(aa .i64 ((3:Int)+(aa .i64 v4)))≤(v0.size:Int)then(if 0≤(3:Int)then(if(3:Int)≤(((aa .i64 ((3:Int)+(aa .i64 v4))).toNat:Nat):Int)then(bif (decide ((0:Int)≤(aa .i64 (v3.1-(1:Int)))))then(bif (decide ((aa .i64 (v3.1-(1:Int)))<(20:Int)))then(jV k (v0.extract ((3:Int).toNat) ((aa .i64 ((3:Int)+(aa .i64 v4))).toNat))).bind fun v5=>
 (bif v5 then(qb k ((v0.extract ((3:Int).toNat) ((aa .i64 ((3:Int)+(aa .i64 v4))).toNat)),(aa .i64 (v3.1-(1:Int))))).bind fun v6=>
 (bif (EJ v6 v0)then(if(d.1.length+([((v0.extract ((3:Int).toNat) ((aa .i64 ((3:Int)+(aa .i64 v4))).toNat)),(aa .i64 (v3.1-(1:Int))))]:List ar).length)*24≤au then self ((d.1++([((v0.extract ((3:Int).toNat) ((aa .i64 ((3:Int)+(aa .i64 v4))).toNat)),(aa .i64 (v3.1-(1:Int))))]:List ar)),d.2.1,d.2.2.1,(aa .i64 (d.2.2.2+(1:Int))))else none)else self (d.1,d.2.1,d.2.2.1,(aa .i64 (d.2.2.2+(1:Int)))))else self (d.1,d.2.1,d.2.2.1,(aa .i64 (d.2.2.2+(1:Int)))))else self (d.1,d.2.1,d.2.2.1,(aa .i64 (d.2.2.2+(1:Int)))))else self (d.1,d.2.1,d.2.2.1,(aa .i64 (d.2.2.2+(1:Int)))))else none)else none)else none)else none)else none))else none))else none)else none)else some d.1)
def ti(k:Nat)(x0:(Option ck))(x1:Int):Option (List ar):=
 (gR k (x0,x1)).bind fun y1=>
 (qq k (y1,(16:Int))).bind fun y2=>
 iter k (dY k) (([]:List ar),y2,(y2.length:Int),(0:Int))
theorem xF(k:Nat)(x0:(Option ck))(x1:Int):eJ (k+1) (x0,x1)=ti k x0 x1:=by kernel_rfl
def cE(k:Nat)(self:_→Option (Int×Bool))(d:(ByteArray×((List ar)×aF))):=
 (bif (decide (d.2.2.2<d.2.2.1))then(if 0≤d.2.2.2 then(if d.2.2.2<(d.2.1.length:Int)then(d.2.1[d.2.2.2.toNat]?).bind fun v0=>
 (bif (EJ v0.1 d.1)then some (v0.2,true)else self (d.1,d.2.1,d.2.2.1,(aa .i64 (d.2.2.2+(1:Int)))))else none)else none)else some ((0:Int),false))
def Ad(k:Nat)(x0:(Option ck))(x1:Int)(x2:ByteArray):Option (Int×Bool):=
 (eJ k (x0,x1)).bind fun y1=>
 iter k (cE k) (x2,y1,(y1.length:Int),(0:Int))
theorem B2(k:Nat)(x0:(Option ck))(x1:Int)(x2:ByteArray):oh (k+1) (x0,x1,x2)=Ad k x0 x1 x2:=by kernel_rfl
def da(k:Nat)(a0:_→Option (List Bool))(self:_→Option (List Bool))(d:((Option ck)×(Unit×(Unit×(Unit×(Unit×(Int×(Unit×(Int×(Int×((List Bool)×(Int×((List ar)×(Int×(Int×((List Bool)×((List Bool)×((List Bool)×((List Bool)×aT))))))))))))))))))):=
 let e0:=d.2.2.2.2
 let e1:=e0.2.2.2.2
 let e2:=e1.2.2.2.2
 let e3:=e2.2.2.2.2
 (bif (decide (e2.2.1<e2.1))then(if 0≤e2.2.1 then(if e2.2.1<(e1.2.2.2.1.length:Int)then(e1.2.2.2.1[e2.2.1.toNat]?).bind fun v0=>
 (oh k (d.1,e0.2.2.2.1,v0.1)).bind fun v1=>
 (jo k (d.1,v1.1)).bind fun v2=>
 (bif v2 then(if 0≤v1.1 then(if v1.1<(20:Int)then(e2.2.2.2.1[v1.1.toNat]?).bind fun v3=>
 self (d.1,(),(),(),(),e0.2.1,(),e0.2.2.2.1,e1.1,e1.2.1,e1.2.2.1,e1.2.2.2.1,e2.1,(aa .i64 (e2.2.1+(1:Int))),e2.2.2.1,(e2.2.2.2.1.set v1.1.toNat true),e3.1,e3.2.1,e3.2.2)else none)else none)else self (d.1,(),(),(),(),e0.2.1,(),e0.2.2.2.1,e1.1,e1.2.1,e1.2.2.1,e1.2.2.2.1,e2.1,(aa .i64 (e2.2.1+(1:Int))),e2.2.2.1,e2.2.2.2.1,e3.1,e3.2.1,e3.2.2))else none)else none)else a0 (d.1,(),(),(),(),e0.2.1,(),e1.1,e1.2.1,(aa .i64 (e1.2.2.1+(1:Int))),e2.2.2.2.1,e3.1,e2.2.2.1,e3.2.1,e3.2.2))
def dW(k:Nat)(a0:_→Option (List Bool))(self:_→Option (List Bool))(d:((Option ck)×(Unit×(Unit×(Unit×(Unit×(Int×(Unit×(Int×((List Bool)×(Int×((List Bool)×((List Bool)×((List Bool)×((List Bool)×aT))))))))))))))):=
 let e0:=d.2.2.2.2
 let e1:=e0.2.2.2.2
 let e2:=e1.2.2.2.2
 (bif (decide (e1.2.1<(20:Int)))then(if 0≤e1.2.1 then(e1.1[e1.2.1.toNat]?).bind fun v0=>
 (bif (!v0)then self (d.1,(),(),(),(),e0.2.1,(),e0.2.2.2.1,e1.1,(aa .i64 (e1.2.1+(1:Int))),e1.2.2.1,e1.2.2.2.1,e2.1,e2.2.1,e2.2.2)else(if 0≤e1.2.1 then(if e1.2.1<(20:Int)then(e2.1[e1.2.1.toNat]?).bind fun v1=>
 (bif (e0.2.1==(8:Int))then self (d.1,(),(),(),(),e0.2.1,(),e0.2.2.2.1,e1.1,(aa .i64 (e1.2.1+(1:Int))),e1.2.2.1,e1.2.2.2.1,(e2.1.set e1.2.1.toNat true),e2.2.1,e2.2.2)else(jx k (d.1,e1.2.1)).bind fun v2=>
 (bif (!v2)then self (d.1,(),(),(),(),e0.2.1,(),e0.2.2.2.1,e1.1,(aa .i64 (e1.2.1+(1:Int))),e1.2.2.1,e1.2.2.2.1,(e2.1.set e1.2.1.toNat true),e2.2.1,e2.2.2)else(jn k (d.1,e2.2.2,e1.2.1,(1:Int))).bind fun v3=>
 (bif (!v3)then self (d.1,(),(),(),(),e0.2.1,(),e0.2.2.2.1,e1.1,(aa .i64 (e1.2.1+(1:Int))),e1.2.2.1,e1.2.2.2.1,(e2.1.set e1.2.1.toNat true),e2.2.1,e2.2.2)else(eJ k (d.1,e1.2.1)).bind fun v4=>
 iter k (da k self) (d.1,(),(),(),(),e0.2.1,(),e1.2.1,e0.2.2.2.1,e1.1,e1.2.1,v4,(v4.length:Int),(0:Int),(e2.1.set e1.2.1.toNat true),e1.2.2.1,e1.2.2.2.1,e2.2.1,e2.2.2))))else none)else none))else none)else a0 (d.1,(),(),(),(),(aa .i64 (e0.2.2.2.1+(1:Int))),e1.2.2.1,e2.1,e2.2.1,e2.2.2))
def fH(k:Nat)(self:_→Option (List Bool))(d:((Option ck)×(Unit×(Unit×(Unit×(Unit×(Int×((List Bool)×((List Bool)×((List Bool)×aT)))))))))):=
 let e0:=d.2.2.2.2
 (bif (decide (e0.2.1<(9:Int)))then iter k (dW k self) (d.1,(),(),(),(),e0.2.1,(),e0.2.1,e0.2.2.1,(0:Int),(List.replicate 20 false),e0.2.2.1,e0.2.2.2.1,e0.2.2.2.2.1,e0.2.2.2.2.2)else some e0.2.2.2.1)
def ue(k:Nat)(x0:(Option ck))(x1:aT):Option (List Bool):=
 (if 0≤(0:Int)then(if(0:Int)<(20:Int)then((List.replicate 20 false)[(0:Int).toNat]?).bind fun y1=>
 iter k (fH k) (x0,(),(),(),(),(0:Int),((List.replicate 20 false).set (0:Int).toNat true),(List.replicate 20 false),(List.replicate 20 false),x1)else none)else none)
theorem xK(k:Nat)(x0:(Option ck))(x1:aT):eK (k+1) (x0,x1)=ue k x0 x1:=by kernel_rfl
def ek(k:Nat)(self:_→Option (List Int))(d:((List Int)×((List Bool)×Int))):=
 (bif (decide (d.2.2<(20:Int)))then(if 0≤d.2.2 then(d.2.1[d.2.2.toNat]?).bind fun v0=>
 (bif v0 then(if(d.1.length+([d.2.2]:List Int).length)*8≤au then self ((d.1++([d.2.2]:List Int)),d.2.1,(aa .i64 (d.2.2+(1:Int))))else none)else self (d.1,d.2.1,(aa .i64 (d.2.2+(1:Int)))))else none)else some d.1)
def oE(k:Nat)(x0:ck)(x1:aT):Option (List Int):=
 (kf k x0).bind fun y1=>
 (bif (!y1)then some ([]:List Int)else(gB k x1).bind fun y2=>
 (bif (!y2)then some ([]:List Int)else(eK k ((some x0),x1)).bind fun y3=>
 iter k (ek k) (([]:List Int),y3,(0:Int))))
theorem sL(k:Nat)(x0:ck)(x1:aT):ik (k+1) (x0,x1)=oE k x0 x1:=by kernel_rfl
def wC(k:Nat)(x0:Int):Option ByteArray:=
 (uK k x0).bind fun y1=>
 some y1
theorem zH(k:Nat)(x0:Int):bq (k+1) (x0)=wC k x0:=by kernel_rfl
def II(k:Nat)(x0:(List ByteArray))(x1:ByteArray):Option ByteArray:=
 (we k (x0,x1)).bind fun y1=>
 some y1
theorem HM(k:Nat)(x0:(List ByteArray))(x1:ByteArray):my (k+1) (x0,x1)=II k x0 x1:=by kernel_rfl
def gH(k:Nat)(self:_→Option ByteArray)(d:((List ByteArray)×((List aj)×aF))):=
 (bif (decide (d.2.2.2<d.2.2.1))then(if 0≤d.2.2.2 then(d.2.1[d.2.2.2.toNat]?).bind fun v0=>
 (if 0≤v0.1 then(if v0.1≤(((⟨#[117,103,109]⟩:ByteArray).size:Nat):Int)then(if 0≤(aa .i64 (v0.1-(1:Int)))then(if(aa .i64 (v0.1-(1:Int)))≤(v0.1.toNat:Int)then(bq k v0.2.1).bind fun v1=>
 (if((⟨#[117,103,109]⟩:ByteArray).extract ((aa .i64 (v0.1-(1:Int))).toNat) v0.1.toNat).size+v1.size≤9223372036854775807 then(if(((⟨#[117,103,109]⟩:ByteArray).extract ((aa .i64 (v0.1-(1:Int))).toNat) v0.1.toNat)++v1).size+(⟨#[58]⟩:ByteArray).size≤9223372036854775807 then(bq k v0.2.2).bind fun v2=>
 (if((((⟨#[117,103,109]⟩:ByteArray).extract ((aa .i64 (v0.1-(1:Int))).toNat) v0.1.toNat)++v1)++(⟨#[58]⟩:ByteArray)).size+v2.size≤9223372036854775807 then(if(d.1.length+([(((((⟨#[117,103,109]⟩:ByteArray).extract ((aa .i64 (v0.1-(1:Int))).toNat) v0.1.toNat)++v1)++(⟨#[58]⟩:ByteArray))++v2)]:List ByteArray).length)*16≤au then self ((d.1++([(((((⟨#[117,103,109]⟩:ByteArray).extract ((aa .i64 (v0.1-(1:Int))).toNat) v0.1.toNat)++v1)++(⟨#[58]⟩:ByteArray))++v2)]:List ByteArray)),d.2.1,d.2.2.1,(aa .i64 (d.2.2.2+(1:Int))))else none)else none)else none)else none)else none)else none)else none)else none)else none)else(my k (d.1,(⟨#[44]⟩:ByteArray))).bind fun v3=>
 some v3)
def uX(k:Nat)(x0:(List aj)):Option ByteArray:=
 (iL k x0).bind fun y1=>
 (bif (!y1)then some (⟨#[]⟩:ByteArray)else(bif ((x0.length:Int)==(0:Int))then some (⟨#[45]⟩:ByteArray)else iter k (gH k) (([]:List ByteArray),x0,(x0.length:Int),(0:Int))))
theorem zD(k:Nat)(x0:(List aj)):ja (k+1) (x0)=uX k x0:=by kernel_rfl
def Br(k:Nat)(x0:(Option ck))(x1:Int):Option ByteArray:=
 (x0).bind fun y1=>
 (if 0≤x1 then(y1.2.2.1[x1.toNat]?).bind fun y2=>
 (oY (R:=ByteArray) ((bif (y2.1==(2:Int))then some (.inl ((),(⟨#[100,105,114]⟩:ByteArray),y2))else some (.inl ((),(⟨#[102,105,108,101]⟩:ByteArray),y2)))) fun(d3:(Unit×(ByteArray×aA)))=>let e0:=d3.2.2.2.2;(kv k d3.2.2.2.1).bind fun y4=>
 (bq k e0.1).bind fun y5=>
 (bq k e0.2.1).bind fun y6=>
 (bq k e0.2.2.1).bind fun y7=>
 (bq k e0.2.2.2.1).bind fun y8=>
 (bq k e0.2.2.2.2.1).bind fun y9=>
 (ja k e0.2.2.2.2.2.2.1).bind fun y10=>
 (ja k e0.2.2.2.2.2.2.2).bind fun y11=>
 (my k (([d3.2.1,y4,y5,y6,y7,y8,y9,y10,y11]:List ByteArray),(⟨#[32]⟩:ByteArray))).bind fun y12=>
 some y12)else none)
theorem CI(k:Nat)(x0:(Option ck))(x1:Int):om (k+1) (x0,x1)=Br k x0 x1:=by kernel_rfl
def iR(k:Nat)(self:_→Option (List ByteArray))(d:((List ByteArray)×((List ar)×aF))):=
 (bif (decide (d.2.2.2<d.2.2.1))then(if 0≤d.2.2.2 then(if d.2.2.2<(d.2.1.length:Int)then(d.2.1[d.2.2.2.toNat]?).bind fun v0=>
 (if(d.1.length+([v0.1]:List ByteArray).length)*16≤au then self ((d.1++([v0.1]:List ByteArray)),d.2.1,d.2.2.1,(aa .i64 (d.2.2.2+(1:Int))))else none)else none)else none)else(dF k d.1).bind fun v1=>
 some v1)
def yG(k:Nat)(x0:(Option ck))(x1:Int):Option (List ByteArray):=
 (eJ k (x0,x1)).bind fun y1=>
 iter k (iR k) (([]:List ByteArray),y1,(y1.length:Int),(0:Int))
theorem A5(k:Nat)(x0:(Option ck))(x1:Int):na (k+1) (x0,x1)=yG k x0 x1:=by kernel_rfl
def l9(k:Nat)(self:_→Option ByteArray)(d:(ByteArray×((List Int)×aF))):=
 (bif (decide (d.2.2.2<d.2.2.1))then(if 0≤d.2.2.2 then((d.1[d.2.2.2.toNat]?.map fun v0=>(v0.toNat:Int))).bind fun v1=>
 (if 0≤(4:Int)then(if 0≤(v1.fdiv (2 ^(min (4:Int).toNat (IntKind.bits .u8))))then(((⟨#[48,49,50,51,52,53,54,55,56,57,97,98,99,100,101,102]⟩:ByteArray)[(v1.fdiv (2 ^(min (4:Int).toNat (IntKind.bits .u8)))).toNat]?.map fun v0=>(v0.toNat:Int))).bind fun v2=>
 (if 0≤d.2.2.2 then((d.1[d.2.2.2.toNat]?.map fun v0=>(v0.toNat:Int))).bind fun v3=>
 (if 0≤(intBits .and .u8 v3 (15:Int))then(((⟨#[48,49,50,51,52,53,54,55,56,57,97,98,99,100,101,102]⟩:ByteArray)[(intBits .and .u8 v3 (15:Int)).toNat]?.map fun v0=>(v0.toNat:Int))).bind fun v4=>
 (if(d.2.1.length+([v2,v4]:List Int).length)*1≤au then self (d.1,(d.2.1++([v2,v4]:List Int)),d.2.2.1,(aa .i64 (d.2.2.2+(1:Int))))else none)else none)else none)else none)else none)else none)else some (ofBytes d.2.1))
def Gy(k:Nat)(x0:ByteArray):Option ByteArray:=
 iter k (l9 k) (x0,([]:List Int),(x0.size:Int),(0:Int))
theorem F5(k:Nat)(x0:ByteArray):sK (k+1) (x0)=Gy k x0:=by kernel_rfl
def ya(k:Nat)(x0:(Option ck))(x1:Int):Option ByteArray:=
 (jx k (x0,x1)).bind fun y1=>
 (bif y1 then(na k (x0,x1)).bind fun y2=>
 (my k (y2,(⟨#[44]⟩:ByteArray))).bind fun y3=>
 some y3 else(gR k (x0,x1)).bind fun y4=>
 (sK k y4).bind fun y5=>
 some y5)
theorem AU(k:Nat)(x0:(Option ck))(x1:Int):mY (k+1) (x0,x1)=ya k x0 x1:=by kernel_rfl
def gW(k:Nat)(self:_→Option Int)(d:(Int×((List aA)×aF))):=
 (bif (decide (d.2.2.2<d.2.2.1))then(if 0≤d.2.2.2 then(d.2.1[d.2.2.2.toNat]?).bind fun v0=>
 (bif (v0.1 != (0:Int))then self ((aa .i64 (d.1+(1:Int))),d.2.1,d.2.2.1,(aa .i64 (d.2.2.2+(1:Int))))else self (d.1,d.2.1,d.2.2.1,(aa .i64 (d.2.2.2+(1:Int)))))else none)else some d.1)
def vT(k:Nat)(x0:(Option ck))(x1:Int):Option Int:=
 (x0).bind fun y1=>
 (if 0≤(aa .i64 ((aa .i64 (x1+(1:Int)))*(5:Int)))then(if(aa .i64 ((aa .i64 (x1+(1:Int)))*(5:Int)))≤(y1.2.2.1.length:Int)then(if 0≤(aa .i64 (x1*(5:Int)))then(if(aa .i64 (x1*(5:Int)))≤(((aa .i64 ((aa .i64 (x1+(1:Int)))*(5:Int))).toNat:Nat):Int)then iter k (gW k) ((0:Int),((y1.2.2.1.take ((aa .i64 ((aa .i64 (x1+(1:Int)))*(5:Int))).toNat)).drop ((aa .i64 (x1*(5:Int))).toNat)),((((y1.2.2.1.take ((aa .i64 ((aa .i64 (x1+(1:Int)))*(5:Int))).toNat)).drop ((aa .i64 (x1*(5:Int))).toNat)).length:Nat):Int),(0:Int))else none)else none)else none)else none)
theorem zA(k:Nat)(x0:(Option ck))(x1:Int):lA (k+1) (x0,x1)=vT k x0 x1:=by kernel_rfl
def fR(k:Nat)(self:_→Option (List Int))(d:((List Int)×((List Int)×aF))):=
 (bif (decide (d.2.2.2<d.2.2.1))then(if 0≤d.2.2.2 then(d.2.1[d.2.2.2.toNat]?).bind fun v0=>
 (bif (v0 != (-1:Int))then(if(d.1.length+([v0]:List Int).length)*8≤au then self ((d.1++([v0]:List Int)),d.2.1,d.2.2.1,(aa .i64 (d.2.2.2+(1:Int))))else none)else self (d.1,d.2.1,d.2.2.1,(aa .i64 (d.2.2.2+(1:Int)))))else none)else some d.1)
def ud(k:Nat)(x0:aA):Option (List Int):=
 iter k (fR k) (([]:List Int),x0.2.2.2.2.2.2.2.1,(x0.2.2.2.2.2.2.2.1.length:Int),(0:Int))
theorem xH(k:Nat)(x0:aA):kH (k+1) (x0)=ud k x0:=by kernel_rfl
def iH(k:Nat)(a0:_→Option (List Bool))(self:_→Option (List Bool))(d:((List Bool)×((List aA)×(Int×(Int×((List Int)×aF)))))):=
 let e0:=d.2.2.2.2
 (bif (decide (e0.2.2<e0.2.1))then(if 0≤e0.2.2 then(if e0.2.2<(e0.1.length:Int)then(e0.1[e0.2.2.toNat]?).bind fun v0=>
 (if 0≤v0 then(if v0<(d.1.length:Int)then(d.1[v0.toNat]?).bind fun v1=>
 self ((d.1.set v0.toNat true),d.2.1,d.2.2.1,d.2.2.2.1,e0.1,e0.2.1,(aa .i64 (e0.2.2+(1:Int))))else none)else none)else none)else none)else a0 (d.1,d.2.1,d.2.2.1,(aa .i64 (d.2.2.2.1+(1:Int)))))
def iX(k:Nat)(self:_→Option (List Bool))(d:((List Bool)×((List aA)×aF))):=
 (bif (decide (d.2.2.2<d.2.2.1))then(if 0≤d.2.2.2 then(d.2.1[d.2.2.2.toNat]?).bind fun v0=>
 (kH k v0).bind fun v1=>
 iter k (iH k self) (d.1,d.2.1,d.2.2.1,d.2.2.2,v1,(v1.length:Int),(0:Int))else none)else some d.1)
def yM(k:Nat)(x0:(Option ck)):Option (List Bool):=
 (if 0≤(56:Int)then(if(56:Int)≤(56:Int)then(if(56:Int)*1≤(au:Int)then(x0).bind fun y1=>
 iter k (iX k) ((List.replicate (56:Int).toNat false),y1.2.2.1,(y1.2.2.1.length:Int),(0:Int))else none)else none)else none)
theorem BE(k:Nat)(x0:(Option ck)):nb (k+1) (x0)=yM k x0:=by kernel_rfl
def gV(k:Nat)(a0:Int)(self:_→Option Int)(d:(Int×(Unit×(Int×(Int×(List Bool)))))):=
 (bif (decide (d.2.2.2.1<d.2.2.1))then(if 0≤d.2.2.2.1 then(if d.2.2.2.1<((((aa .i64 ((aa .i64 (a0+(1:Int)))*(14:Int))).toNat-(aa .i64 (a0*(14:Int))).toNat):Nat):Int)then(d.2.2.2.2[((aa .i64 (a0*(14:Int))).toNat+d.2.2.2.1.toNat)]?).bind fun v0=>
 (bif v0 then(if(aa .i64 (a0*(14:Int))).toNat=(aa .i64 (a0*(14:Int))).toNat∧((aa .i64 ((aa .i64 (a0+(1:Int)))*(14:Int))).toNat-(aa .i64 (a0*(14:Int))).toNat)=((aa .i64 ((aa .i64 (a0+(1:Int)))*(14:Int))).toNat-(aa .i64 (a0*(14:Int))).toNat)then self ((aa .i64 (d.1+(1:Int))),(),d.2.2.1,(aa .i64 (d.2.2.2.1+(1:Int))),d.2.2.2.2)else none)else(if(aa .i64 (a0*(14:Int))).toNat=(aa .i64 (a0*(14:Int))).toNat∧((aa .i64 ((aa .i64 (a0+(1:Int)))*(14:Int))).toNat-(aa .i64 (a0*(14:Int))).toNat)=((aa .i64 ((aa .i64 (a0+(1:Int)))*(14:Int))).toNat-(aa .i64 (a0*(14:Int))).toNat)then self (d.1,(),d.2.2.1,(aa .i64 (d.2.2.2.1+(1:Int))),d.2.2.2.2)else none))else none)else none)else some d.1)
def vN(k:Nat)(x0:(Option ck))(x1:Int):Option Int:=
 (nb k x0).bind fun y1=>
 (if 0≤(aa .i64 ((aa .i64 (x1+(1:Int)))*(14:Int)))then(if(aa .i64 ((aa .i64 (x1+(1:Int)))*(14:Int)))≤(y1.length:Int)then(if 0≤(aa .i64 (x1*(14:Int)))then(if(aa .i64 (x1*(14:Int)))≤(((aa .i64 ((aa .i64 (x1+(1:Int)))*(14:Int))).toNat:Nat):Int)then(if(aa .i64 (x1*(14:Int))).toNat=(aa .i64 (x1*(14:Int))).toNat∧((aa .i64 ((aa .i64 (x1+(1:Int)))*(14:Int))).toNat-(aa .i64 (x1*(14:Int))).toNat)=((aa .i64 ((aa .i64 (x1+(1:Int)))*(14:Int))).toNat-(aa .i64 (x1*(14:Int))).toNat)then iter k (gV k x1) ((0:Int),(),((((aa .i64 ((aa .i64 (x1+(1:Int)))*(14:Int))).toNat-(aa .i64 (x1*(14:Int))).toNat):Nat):Int),(0:Int),y1)else none)else none)else none)else none)else none)
theorem zS(k:Nat)(x0:(Option ck))(x1:Int):lV (k+1) (x0,x1)=vN k x0 x1:=by kernel_rfl
def lb(k:Nat)(x0:ck)(x1:Int):Option ByteArray:=
 (kf k x0).bind fun y1=>
 (bif (!y1)then some (⟨#[]⟩:ByteArray)else(bU k x1).bind fun y2=>
 (bif (!y2)then some (⟨#[]⟩:ByteArray)else(lA k ((some x0),x1)).bind fun y3=>
 (bq k y3).bind fun y4=>
 (if y4.size+(⟨#[47]⟩:ByteArray).size≤9223372036854775807 then(if 0≤x1 then(x0.2.1[x1.toNat]?).bind fun y5=>
 (bq k y5.1).bind fun y6=>
 (if(y4++(⟨#[47]⟩:ByteArray)).size+y6.size≤9223372036854775807 then(if((y4++(⟨#[47]⟩:ByteArray))++y6).size+(⟨#[32]⟩:ByteArray).size≤9223372036854775807 then(lV k ((some x0),x1)).bind fun y7=>
 (bq k y7).bind fun y8=>
 (if(((y4++(⟨#[47]⟩:ByteArray))++y6)++(⟨#[32]⟩:ByteArray)).size+y8.size≤9223372036854775807 then(if((((y4++(⟨#[47]⟩:ByteArray))++y6)++(⟨#[32]⟩:ByteArray))++y8).size+(⟨#[47]⟩:ByteArray).size≤9223372036854775807 then(if 0≤x1 then(x0.2.1[x1.toNat]?).bind fun y9=>
 (bq k y9.2).bind fun y10=>
 (if(((((y4++(⟨#[47]⟩:ByteArray))++y6)++(⟨#[32]⟩:ByteArray))++y8)++(⟨#[47]⟩:ByteArray)).size+y10.size≤9223372036854775807 then some ((((((y4++(⟨#[47]⟩:ByteArray))++y6)++(⟨#[32]⟩:ByteArray))++y8)++(⟨#[47]⟩:ByteArray))++y10)else none)else none)else none)else none)else none)else none)else none)else none)))
theorem jM(k:Nat)(x0:ck)(x1:Int):iO (k+1) (x0,x1)=lb k x0 x1:=by kernel_rfl
def ib(k:Nat)(self:_→Option (List ByteArray))(d:(Unit×(Unit×((List ByteArray)×((List Int)×(Int×(Int×(aT×ck)))))))):=
 let e0:=d.2.2.2.2
 (bif (decide (e0.2.1<e0.1))then(if 0≤e0.2.1 then(if e0.2.1<(d.2.2.2.1.length:Int)then(d.2.2.2.1[e0.2.1.toNat]?).bind fun v0=>
 (bq k v0).bind fun v1=>
 (if v1.size+(⟨#[32]⟩:ByteArray).size≤9223372036854775807 then(om k ((some e0.2.2.2),v0)).bind fun v2=>
 (if(v1++(⟨#[32]⟩:ByteArray)).size+v2.size≤9223372036854775807 then(jn k ((some e0.2.2.2),e0.2.2.1,v0,(4:Int))).bind fun v3=>
 (bif v3 then(mY k ((some e0.2.2.2),v0)).bind fun v4=>
 (if(⟨#[32]⟩:ByteArray).size+v4.size≤9223372036854775807 then(if((v1++(⟨#[32]⟩:ByteArray))++v2).size+((⟨#[32]⟩:ByteArray)++v4).size≤9223372036854775807 then(if(d.2.2.1.length+([(((v1++(⟨#[32]⟩:ByteArray))++v2)++((⟨#[32]⟩:ByteArray)++v4))]:List ByteArray).length)*16≤au then self ((),(),(d.2.2.1++([(((v1++(⟨#[32]⟩:ByteArray))++v2)++((⟨#[32]⟩:ByteArray)++v4))]:List ByteArray)),d.2.2.2.1,e0.1,(aa .i64 (e0.2.1+(1:Int))),e0.2.2.1,e0.2.2.2)else none)else none)else none)else(if(d.2.2.1.length+([((v1++(⟨#[32]⟩:ByteArray))++v2)]:List ByteArray).length)*16≤au then self ((),(),(d.2.2.1++([((v1++(⟨#[32]⟩:ByteArray))++v2)]:List ByteArray)),d.2.2.2.1,e0.1,(aa .i64 (e0.2.1+(1:Int))),e0.2.2.1,e0.2.2.2)else none))else none)else none)else none)else none)else(iO k (e0.2.2.2,e0.2.2.1.1)).bind fun v5=>
 (if(⟨#[117,115,97,103,101,32]⟩:ByteArray).size+v5.size≤9223372036854775807 then(if(d.2.2.1.length+([((⟨#[117,115,97,103,101,32]⟩:ByteArray)++v5)]:List ByteArray).length)*16≤au then some (d.2.2.1++([((⟨#[117,115,97,103,101,32]⟩:ByteArray)++v5)]:List ByteArray))else none)else none))
def u0(k:Nat)(x0:ck)(x1:aT):Option (List ByteArray):=
 (kf k x0).bind fun y1=>
 (bif (!y1)then some ([]:List ByteArray)else(gB k x1).bind fun y2=>
 (bif (!y2)then some ([]:List ByteArray)else(ik k (x0,x1)).bind fun y3=>
 iter k (ib k) ((),(),([]:List ByteArray),y3,(y3.length:Int),(0:Int),x1,x0)))
theorem tz(k:Nat)(x0:ck)(x1:aT):mm (k+1) (x0,x1)=u0 k x0 x1:=by kernel_rfl
def ph(k:Nat)(self:_→Option Bool)(d:((List ByteArray)×((List ByteArray)×Int))):=
 (bif (decide (d.2.2<(d.1.length:Int)))then(if 0≤d.2.2 then(d.1[d.2.2.toNat]?).bind fun v0=>
 (if 0≤d.2.2 then(d.2.1[d.2.2.toNat]?).bind fun v1=>
 (bif (!(EJ v0 v1))then some false else self (d.1,d.2.1,(aa .i64 (d.2.2+(1:Int)))))else none)else none)else some true)
def wi(k:Nat)(x0:(List ByteArray))(x1:(List ByteArray)):Option Bool:=
 (bif ((x0.length:Int) != (x1.length:Int))then some false else iter k (ph k) (x0,x1,(0:Int)))
theorem zF(k:Nat)(x0:(List ByteArray))(x1:(List ByteArray)):dR (k+1) (x0,x1)=wi k x0 x1:=by kernel_rfl
def AD(k:Nat)(x0:aF)(x1:aF):Option Bool:=
 (bif (x0.1 != x1.1)then some false else(bif (x0.2 != x1.2)then some false else some true))
theorem Ch(k:Nat)(x0:aF)(x1:aF):ko (k+1) (x0,x1)=AD k x0 x1:=by kernel_rfl
def qT(k:Nat)(self:_→Option Bool)(d:((List aF)×((List aF)×Int))):=
 (bif (decide (d.2.2<(d.1.length:Int)))then(if 0≤d.2.2 then(d.1[d.2.2.toNat]?).bind fun v0=>
 (if 0≤d.2.2 then(d.2.1[d.2.2.toNat]?).bind fun v1=>
 (ko k (v0,v1)).bind fun v2=>
 (bif (!v2)then some false else self (d.1,d.2.1,(aa .i64 (d.2.2+(1:Int)))))else none)else none)else some true)
def yj(k:Nat)(x0:(List aF))(x1:(List aF)):Option Bool:=
 (bif ((x0.length:Int) != (x1.length:Int))then some false else iter k (qT k) (x0,x1,(0:Int)))
theorem BT(k:Nat)(x0:(List aF))(x1:(List aF)):nc (k+1) (x0,x1)=yj k x0 x1:=by kernel_rfl
def vg(k:Nat)(self:_→Option Bool)(d:((List Int)×((List Int)×Int))):=
 (bif (decide (d.2.2<(d.1.length:Int)))then(if 0≤d.2.2 then(d.1[d.2.2.toNat]?).bind fun v0=>
 (if 0≤d.2.2 then(d.2.1[d.2.2.toNat]?).bind fun v1=>
 (bif (v0 != v1)then some false else self (d.1,d.2.1,(aa .i64 (d.2.2+(1:Int)))))else none)else none)else some true)
def Dd(k:Nat)(x0:(List Int))(x1:(List Int)):Option Bool:=
 (bif ((x0.length:Int) != (x1.length:Int))then some false else iter k (vg k) (x0,x1,(0:Int)))
theorem D8(k:Nat)(x0:(List Int))(x1:(List Int)):l4 (k+1) (x0,x1)=Dd k x0 x1:=by kernel_rfl
def ui(k:Nat)(x0:aj)(x1:aj):Option Bool:=
 (bif (x0.1 != x1.1)then some false else(bif (x0.2.1 != x1.2.1)then some false else(bif (x0.2.2 != x1.2.2)then some false else some true)))
theorem xw(k:Nat)(x0:aj)(x1:aj):gK (k+1) (x0,x1)=ui k x0 x1:=by kernel_rfl
def nG(k:Nat)(self:_→Option Bool)(d:((List aj)×((List aj)×Int))):=
 (bif (decide (d.2.2<(d.1.length:Int)))then(if 0≤d.2.2 then(d.1[d.2.2.toNat]?).bind fun v0=>
 (if 0≤d.2.2 then(d.2.1[d.2.2.toNat]?).bind fun v1=>
 (gK k (v0,v1)).bind fun v2=>
 (bif (!v2)then some false else self (d.1,d.2.1,(aa .i64 (d.2.2+(1:Int)))))else none)else none)else some true)
def rW(k:Nat)(x0:(List aj))(x1:(List aj)):Option Bool:=
 (bif ((x0.length:Int) != (x1.length:Int))then some false else iter k (nG k) (x0,x1,(0:Int)))
theorem uW(k:Nat)(x0:(List aj))(x1:(List aj)):fE (k+1) (x0,x1)=rW k x0 x1:=by kernel_rfl
def An(k:Nat)(x0:aA)(x1:aA):Option Bool:=
 (bif (x0.1 != x1.1)then some false else(bif (x0.2.1 != x1.2.1)then some false else(bif (x0.2.2.1 != x1.2.2.1)then some false else(bif (x0.2.2.2.1 != x1.2.2.2.1)then some false else(bif (x0.2.2.2.2.1 != x1.2.2.2.2.1)then some false else(bif (x0.2.2.2.2.2.1 != x1.2.2.2.2.2.1)then some false else(bif (x0.2.2.2.2.2.2.1 != x1.2.2.2.2.2.2.1)then some false else(l4 k (x0.2.2.2.2.2.2.2.1,x1.2.2.2.2.2.2.2.1)).bind fun y1=>
 (bif (!y1)then some false else(fE k (x0.2.2.2.2.2.2.2.2.1,x1.2.2.2.2.2.2.2.2.1)).bind fun y2=>
 (bif (!y2)then some false else(fE k (x0.2.2.2.2.2.2.2.2.2,x1.2.2.2.2.2.2.2.2.2)).bind fun y3=>
 (bif (!y3)then some false else some true))))))))))
theorem CJ(k:Nat)(x0:aA)(x1:aA):kN (k+1) (x0,x1)=An k x0 x1:=by kernel_rfl
def rA(k:Nat)(self:_→Option Bool)(d:((List aA)×((List aA)×Int))):=
 (bif (decide (d.2.2<(d.1.length:Int)))then(if 0≤d.2.2 then(d.1[d.2.2.toNat]?).bind fun v0=>
 (if 0≤d.2.2 then(d.2.1[d.2.2.toNat]?).bind fun v1=>
 (kN k (v0,v1)).bind fun v2=>
 (bif (!v2)then some false else self (d.1,d.2.1,(aa .i64 (d.2.2+(1:Int)))))else none)else none)else some true)
def yr(k:Nat)(x0:(List aA))(x1:(List aA)):Option Bool:=
 (bif ((x0.length:Int) != (x1.length:Int))then some false else iter k (rA k) (x0,x1,(0:Int)))
theorem Ah(k:Nat)(x0:(List aA))(x1:(List aA)):nu (k+1) (x0,x1)=yr k x0 x1:=by kernel_rfl
def Iw(k:Nat)(x0:ck)(x1:ck):Option Bool:=
 (bif (x0.1 != x1.1)then some false else(nc k (x0.2.1,x1.2.1)).bind fun y1=>
 (bif (!y1)then some false else(nu k (x0.2.2.1,x1.2.2.1)).bind fun y2=>
 (bif (!y2)then some false else(dR k (x0.2.2.2,x1.2.2.2)).bind fun y3=>
 (bif (!y3)then some false else some true))))
theorem HQ(k:Nat)(x0:ck)(x1:ck):wI (k+1) (x0,x1)=Iw k x0 x1:=by kernel_rfl
def De(k:Nat)(x0:aT)(x1:aT):Option Bool:=
 (bif (x0.1 != x1.1)then some false else(bif (x0.2.1 != x1.2.1)then some false else(l4 k (x0.2.2,x1.2.2)).bind fun y1=>
 (bif (!y1)then some false else some true)))
theorem Ef(k:Nat)(x0:aT)(x1:aT):ql (k+1) (x0,x1)=De k x0 x1:=by kernel_rfl
def iJ(k:Nat)(self:_→Option ByteArray)(d:(Int×ByteArray)):=
 (bif (decide ((0:Int)<d.1))then(if((10:Int):Int)≠0 then(if(ofBytes ([(aa .u8 (aa .i64 ((48:Int)+(d.1.tmod (10:Int)))))]:List Int)).size+d.2.size≤9223372036854775807 then(if((10:Int):Int)≠0 then self ((aa .i64 (d.1.tdiv (10:Int))),((ofBytes ([(aa .u8 (aa .i64 ((48:Int)+(d.1.tmod (10:Int)))))]:List Int))++d.2))else none)else none)else none)else(if(⟨#[109]⟩:ByteArray).size+d.2.size≤9223372036854775807 then some ((⟨#[109]⟩:ByteArray)++d.2)else none))
def qh(k:Nat)(x0:Int):Option ByteArray:=
 (bif (decide (x0≤(0:Int)))then some (⟨#[109,48]⟩:ByteArray)else iter k (iJ k) (x0,(⟨#[]⟩:ByteArray)))
theorem pA(k:Nat)(x0:Int):ez (k+1) (x0)=qh k x0:=by kernel_rfl
def fi(k:Nat)(self:_→Option (Int×(List ByteArray)))(d:(Unit×(Int×(Int×(List ByteArray))))):=
 (bif (decide (d.2.2.1<(d.2.2.2.length:Int)))then(ez k d.2.1).bind fun v0=>
 (if 0≤d.2.2.1 then(if d.2.2.1<(d.2.2.2.length:Int)then(d.2.2.2[d.2.2.1.toNat]?).bind fun v1=>
 self ((),(aa .i64 (d.2.1+(1:Int))),(aa .i64 (d.2.2.1+(1:Int))),(d.2.2.2.set d.2.2.1.toNat v0))else none)else none)else some (d.2.1,d.2.2.2))
def rG(k:Nat)(x0:(List ByteArray))(x1:Int):Option (Int×(List ByteArray)):=
 iter k (fi k) ((),x1,(0:Int),x0)
theorem wH(k:Nat)(x0:(List ByteArray))(x1:Int):fX (k+1) (x0,x1)=rG k x0 x1:=by kernel_rfl
def fL(k:Nat)(self:_→Option (Int×(List aF)))(d:(Unit×(Int×(Int×(List aF))))):=
 (bif (decide (d.2.2.1<(d.2.2.2.length:Int)))then(if 0≤d.2.2.1 then(if d.2.2.1<(d.2.2.2.length:Int)then(d.2.2.2[d.2.2.1.toNat]?).bind fun v0=>
 (if 0≤d.2.2.1 then(if d.2.2.1<(((d.2.2.2.set d.2.2.1.toNat (d.2.1,v0.2)).length:Nat):Int)then((d.2.2.2.set d.2.2.1.toNat (d.2.1,v0.2))[d.2.2.1.toNat]?).bind fun v1=>
 self ((),(aa .i64 ((aa .i64 (d.2.1+(1:Int)))+(1:Int))),(aa .i64 (d.2.2.1+(1:Int))),((d.2.2.2.set d.2.2.1.toNat (d.2.1,v0.2)).set d.2.2.1.toNat (v1.1,(aa .i64 (d.2.1+(1:Int))))))else none)else none)else none)else none)else some (d.2.1,d.2.2.2))
def tP(k:Nat)(x0:(List aF))(x1:Int):Option (Int×(List aF)):=
 iter k (fL k) ((),x1,(0:Int),x0)
theorem xA(k:Nat)(x0:(List aF))(x1:Int):kx (k+1) (x0,x1)=tP k x0 x1:=by kernel_rfl
def iC(k:Nat)(self:_→Option (Int×(List Int)))(d:(Unit×aT)):=
 (bif (decide (d.2.2.1<(d.2.2.2.length:Int)))then(if 0≤d.2.2.1 then(if d.2.2.1<(d.2.2.2.length:Int)then(d.2.2.2[d.2.2.1.toNat]?).bind fun v0=>
 self ((),(aa .i64 (d.2.1+(1:Int))),(aa .i64 (d.2.2.1+(1:Int))),(d.2.2.2.set d.2.2.1.toNat d.2.1))else none)else none)else some (d.2.1,d.2.2.2))
def xW(k:Nat)(x0:(List Int))(x1:Int):Option (Int×(List Int)):=
 iter k (iC k) ((),x1,(0:Int),x0)
theorem BJ(k:Nat)(x0:(List Int))(x1:Int):jB (k+1) (x0,x1)=xW k x0 x1:=by kernel_rfl
def eo(k:Nat)(self:_→Option (Int×(List aj)))(d:(Unit×(Int×(Int×(List aj))))):=
 (bif (decide (d.2.2.1<(d.2.2.2.length:Int)))then(if 0≤d.2.2.1 then(if d.2.2.1<(d.2.2.2.length:Int)then(d.2.2.2[d.2.2.1.toNat]?).bind fun v0=>
 (if 0≤d.2.2.1 then(if d.2.2.1<(((d.2.2.2.set d.2.2.1.toNat (d.2.1,v0.2)).length:Nat):Int)then((d.2.2.2.set d.2.2.1.toNat (d.2.1,v0.2))[d.2.2.1.toNat]?).bind fun v1=>
 (if 0≤d.2.2.1 then(if d.2.2.1<((((d.2.2.2.set d.2.2.1.toNat (d.2.1,v0.2)).set d.2.2.1.toNat (v1.1,(aa .i64 (d.2.1+(1:Int))),v1.2.2)).length:Nat):Int)then(((d.2.2.2.set d.2.2.1.toNat (d.2.1,v0.2)).set d.2.2.1.toNat (v1.1,(aa .i64 (d.2.1+(1:Int))),v1.2.2))[d.2.2.1.toNat]?).bind fun v2=>
 self ((),(aa .i64 ((aa .i64 ((aa .i64 (d.2.1+(1:Int)))+(1:Int)))+(1:Int))),(aa .i64 (d.2.2.1+(1:Int))),(((d.2.2.2.set d.2.2.1.toNat (d.2.1,v0.2)).set d.2.2.1.toNat (v1.1,(aa .i64 (d.2.1+(1:Int))),v1.2.2)).set d.2.2.1.toNat (v2.1,v2.2.1,(aa .i64 ((aa .i64 (d.2.1+(1:Int)))+(1:Int))))))else none)else none)else none)else none)else none)else none)else some (d.2.1,d.2.2.2))
def oJ(k:Nat)(x0:(List aj))(x1:Int):Option (Int×(List aj)):=
 iter k (eo k) ((),x1,(0:Int),x0)
theorem sC(k:Nat)(x0:(List aj))(x1:Int):eL (k+1) (x0,x1)=oJ k x0 x1:=by kernel_rfl
def fT(k:Nat)(self:_→Option (Int×(List aA)))(d:(Unit×(Int×(Int×(List aA))))):=
 (bif (decide (d.2.2.1<(d.2.2.2.length:Int)))then(if 0≤d.2.2.1 then(if d.2.2.1<(d.2.2.2.length:Int)then(d.2.2.2[d.2.2.1.toNat]?).bind fun v0=>
 (if 0≤d.2.2.1 then(if d.2.2.1<(((d.2.2.2.set d.2.2.1.toNat (d.2.1,v0.2)).length:Nat):Int)then((d.2.2.2.set d.2.2.1.toNat (d.2.1,v0.2))[d.2.2.1.toNat]?).bind fun v1=>
 (if 0≤d.2.2.1 then(if d.2.2.1<((((d.2.2.2.set d.2.2.1.toNat (d.2.1,v0.2)).set d.2.2.1.toNat (v1.1,(aa .i64 (d.2.1+(1:Int))),v1.2.2)).length:Nat):Int)then(((d.2.2.2.set d.2.2.1.toNat (d.2.1,v0.2)).set d.2.2.1.toNat (v1.1,(aa .i64 (d.2.1+(1:Int))),v1.2.2))[d.2.2.1.toNat]?).bind fun v2=>
 (if 0≤d.2.2.1 then(if d.2.2.1<(((((d.2.2.2.set d.2.2.1.toNat (d.2.1,v0.2)).set d.2.2.1.toNat (v1.1,(aa .i64 (d.2.1+(1:Int))),v1.2.2)).set d.2.2.1.toNat (v2.1,v2.2.1,(aa .i64 ((aa .i64 (d.2.1+(1:Int)))+(1:Int))),v2.2.2.2)).length:Nat):Int)then((((d.2.2.2.set d.2.2.1.toNat (d.2.1,v0.2)).set d.2.2.1.toNat (v1.1,(aa .i64 (d.2.1+(1:Int))),v1.2.2)).set d.2.2.1.toNat (v2.1,v2.2.1,(aa .i64 ((aa .i64 (d.2.1+(1:Int)))+(1:Int))),v2.2.2.2))[d.2.2.1.toNat]?).bind fun v3=>
 (if 0≤d.2.2.1 then(if d.2.2.1<((((((d.2.2.2.set d.2.2.1.toNat (d.2.1,v0.2)).set d.2.2.1.toNat (v1.1,(aa .i64 (d.2.1+(1:Int))),v1.2.2)).set d.2.2.1.toNat (v2.1,v2.2.1,(aa .i64 ((aa .i64 (d.2.1+(1:Int)))+(1:Int))),v2.2.2.2)).set d.2.2.1.toNat (v3.1,v3.2.1,v3.2.2.1,(aa .i64 ((aa .i64 ((aa .i64 (d.2.1+(1:Int)))+(1:Int)))+(1:Int))),v3.2.2.2.2)).length:Nat):Int)then(((((d.2.2.2.set d.2.2.1.toNat (d.2.1,v0.2)).set d.2.2.1.toNat (v1.1,(aa .i64 (d.2.1+(1:Int))),v1.2.2)).set d.2.2.1.toNat (v2.1,v2.2.1,(aa .i64 ((aa .i64 (d.2.1+(1:Int)))+(1:Int))),v2.2.2.2)).set d.2.2.1.toNat (v3.1,v3.2.1,v3.2.2.1,(aa .i64 ((aa .i64 ((aa .i64 (d.2.1+(1:Int)))+(1:Int)))+(1:Int))),v3.2.2.2.2))[d.2.2.1.toNat]?).bind fun v4=>
 (if 0≤d.2.2.1 then(if d.2.2.1<(((((((d.2.2.2.set d.2.2.1.toNat (d.2.1,v0.2)).set d.2.2.1.toNat (v1.1,(aa .i64 (d.2.1+(1:Int))),v1.2.2)).set d.2.2.1.toNat (v2.1,v2.2.1,(aa .i64 ((aa .i64 (d.2.1+(1:Int)))+(1:Int))),v2.2.2.2)).set d.2.2.1.toNat (v3.1,v3.2.1,v3.2.2.1,(aa .i64 ((aa .i64 ((aa .i64 (d.2.1+(1:Int)))+(1:Int)))+(1:Int))),v3.2.2.2.2)).set d.2.2.1.toNat (v4.1,v4.2.1,v4.2.2.1,v4.2.2.2.1,(aa .i64 ((aa .i64 ((aa .i64 ((aa .i64 (d.2.1+(1:Int)))+(1:Int)))+(1:Int)))+(1:Int))),v4.2.2.2.2.2)).length:Nat):Int)then((((((d.2.2.2.set d.2.2.1.toNat (d.2.1,v0.2)).set d.2.2.1.toNat (v1.1,(aa .i64 (d.2.1+(1:Int))),v1.2.2)).set d.2.2.1.toNat (v2.1,v2.2.1,(aa .i64 ((aa .i64 (d.2.1+(1:Int)))+(1:Int))),v2.2.2.2)).set d.2.2.1.toNat (v3.1,v3.2.1,v3.2.2.1,(aa .i64 ((aa .i64 ((aa .i64 (d.2.1+(1:Int)))+(1:Int)))+(1:Int))),v3.2.2.2.2)).set d.2.2.1.toNat (v4.1,v4.2.1,v4.2.2.1,v4.2.2.2.1,(aa .i64 ((aa .i64 ((aa .i64 ((aa .i64 (d.2.1+(1:Int)))+(1:Int)))+(1:Int)))+(1:Int))),v4.2.2.2.2.2))[d.2.2.1.toNat]?).bind fun v5=>
 (if 0≤d.2.2.1 then(if d.2.2.1<((((((((d.2.2.2.set d.2.2.1.toNat (d.2.1,v0.2)).set d.2.2.1.toNat (v1.1,(aa .i64 (d.2.1+(1:Int))),v1.2.2)).set d.2.2.1.toNat (v2.1,v2.2.1,(aa .i64 ((aa .i64 (d.2.1+(1:Int)))+(1:Int))),v2.2.2.2)).set d.2.2.1.toNat (v3.1,v3.2.1,v3.2.2.1,(aa .i64 ((aa .i64 ((aa .i64 (d.2.1+(1:Int)))+(1:Int)))+(1:Int))),v3.2.2.2.2)).set d.2.2.1.toNat (v4.1,v4.2.1,v4.2.2.1,v4.2.2.2.1,(aa .i64 ((aa .i64 ((aa .i64 ((aa .i64 (d.2.1+(1:Int)))+(1:Int)))+(1:Int)))+(1:Int))),v4.2.2.2.2.2)).set d.2.2.1.toNat (v5.1,v5.2.1,v5.2.2.1,v5.2.2.2.1,v5.2.2.2.2.1,(aa .i64 ((aa .i64 ((aa .i64 ((aa .i64 ((aa .i64 (d.2.1+(1:Int)))+(1:Int)))+(1:Int)))+(1:Int)))+(1:Int))),v5.2.2.2.2.2.2)).length:Nat):Int)then(((((((d.2.2.2.set d.2.2.1.toNat (d.2.1,v0.2)).set d.2.2.1.toNat (v1.1,(aa .i64 (d.2.1+(1:Int))),v1.2.2)).set d.2.2.1.toNat (v2.1,v2.2.1,(aa .i64 ((aa .i64 (d.2.1+(1:Int)))+(1:Int))),v2.2.2.2)).set d.2.2.1.toNat (v3.1,v3.2.1,v3.2.2.1,(aa .i64 ((aa .i64 ((aa .i64 (d.2.1+(1:Int)))+(1:Int)))+(1:Int))),v3.2.2.2.2)).set d.2.2.1.toNat (v4.1,v4.2.1,v4.2.2.1,v4.2.2.2.1,(aa .i64 ((aa .i64 ((aa .i64 ((aa .i64 (d.2.1+(1:Int)))+(1:Int)))+(1:Int)))+(1:Int))),v4.2.2.2.2.2)).set d.2.2.1.toNat (v5.1,v5.2.1,v5.2.2.1,v5.2.2.2.1,v5.2.2.2.2.1,(aa .i64 ((aa .i64 ((aa .i64 ((aa .i64 ((aa .i64 (d.2.1+(1:Int)))+(1:Int)))+(1:Int)))+(1:Int)))+(1:Int))),v5.2.2.2.2.2.2))[d.2.2.1.toNat]?).bind fun v6=>
 (if 0≤d.2.2.1 then(if d.2.2.1<(((((((((d.2.2.2.set d.2.2.1.toNat (d.2.1,v0.2)).set d.2.2.1.toNat (v1.1,(aa .i64 (d.2.1+(1:Int))),v1.2.2)).set d.2.2.1.toNat (v2.1,v2.2.1,(aa .i64 ((aa .i64 (d.2.1+(1:Int)))+(1:Int))),v2.2.2.2)).set d.2.2.1.toNat (v3.1,v3.2.1,v3.2.2.1,(aa .i64 ((aa .i64 ((aa .i64 (d.2.1+(1:Int)))+(1:Int)))+(1:Int))),v3.2.2.2.2)).set d.2.2.1.toNat (v4.1,v4.2.1,v4.2.2.1,v4.2.2.2.1,(aa .i64 ((aa .i64 ((aa .i64 ((aa .i64 (d.2.1+(1:Int)))+(1:Int)))+(1:Int)))+(1:Int))),v4.2.2.2.2.2)).set d.2.2.1.toNat (v5.1,v5.2.1,v5.2.2.1,v5.2.2.2.1,v5.2.2.2.2.1,(aa .i64 ((aa .i64 ((aa .i64 ((aa .i64 ((aa .i64 (d.2.1+(1:Int)))+(1:Int)))+(1:Int)))+(1:Int)))+(1:Int))),v5.2.2.2.2.2.2)).set d.2.2.1.toNat (v6.1,v6.2.1,v6.2.2.1,v6.2.2.2.1,v6.2.2.2.2.1,v6.2.2.2.2.2.1,(aa .i64 ((aa .i64 ((aa .i64 ((aa .i64 ((aa .i64 ((aa .i64 (d.2.1+(1:Int)))+(1:Int)))+(1:Int)))+(1:Int)))+(1:Int)))+(1:Int))),v6.2.2.2.2.2.2.2)).length:Nat):Int)then((((((((d.2.2.2.set d.2.2.1.toNat (d.2.1,v0.2)).set d.2.2.1.toNat (v1.1,(aa .i64 (d.2.1+(1:Int))),v1.2.2)).set d.2.2.1.toNat (v2.1,v2.2.1,(aa .i64 ((aa .i64 (d.2.1+(1:Int)))+(1:Int))),v2.2.2.2)).set d.2.2.1.toNat (v3.1,v3.2.1,v3.2.2.1,(aa .i64 ((aa .i64 ((aa .i64 (d.2.1+(1:Int)))+(1:Int)))+(1:Int))),v3.2.2.2.2)).set d.2.2.1.toNat (v4.1,v4.2.1,v4.2.2.1,v4.2.2.2.1,(aa .i64 ((aa .i64 ((aa .i64 ((aa .i64 (d.2.1+(1:Int)))+(1:Int)))+(1:Int)))+(1:Int))),v4.2.2.2.2.2)).set d.2.2.1.toNat (v5.1,v5.2.1,v5.2.2.1,v5.2.2.2.1,v5.2.2.2.2.1,(aa .i64 ((aa .i64 ((aa .i64 ((aa .i64 ((aa .i64 (d.2.1+(1:Int)))+(1:Int)))+(1:Int)))+(1:Int)))+(1:Int))),v5.2.2.2.2.2.2)).set d.2.2.1.toNat (v6.1,v6.2.1,v6.2.2.1,v6.2.2.2.1,v6.2.2.2.2.1,v6.2.2.2.2.2.1,(aa .i64 ((aa .i64 ((aa .i64 ((aa .i64 ((aa .i64 ((aa .i64 (d.2.1+(1:Int)))+(1:Int)))+(1:Int)))+(1:Int)))+(1:Int)))+(1:Int))),v6.2.2.2.2.2.2.2))[d.2.2.1.toNat]?).bind fun v7=>
 ((((((((d.2.2.2.set d.2.2.1.toNat (d.2.1,v0.2)).set d.2.2.1.toNat (v1.1,(aa .i64 (d.2.1+(1:Int))),v1.2.2)).set d.2.2.1.toNat (v2.1,v2.2.1,(aa .i64 ((aa .i64 (d.2.1+(1:Int)))+(1:Int))),v2.2.2.2)).set d.2.2.1.toNat (v3.1,v3.2.1,v3.2.2.1,(aa .i64 ((aa .i64 ((aa .i64 (d.2.1+(1:Int)))+(1:Int)))+(1:Int))),v3.2.2.2.2)).set d.2.2.1.toNat (v4.1,v4.2.1,v4.2.2.1,v4.2.2.2.1,(aa .i64 ((aa .i64 ((aa .i64 ((aa .i64 (d.2.1+(1:Int)))+(1:Int)))+(1:Int)))+(1:Int))),v4.2.2.2.2.2)).set d.2.2.1.toNat (v5.1,v5.2.1,v5.2.2.1,v5.2.2.2.1,v5.2.2.2.2.1,(aa .i64 ((aa .i64 ((aa .i64 ((aa .i64 ((aa .i64 (d.2.1+(1:Int)))+(1:Int)))+(1:Int)))+(1:Int)))+(1:Int))),v5.2.2.2.2.2.2)).set d.2.2.1.toNat (v6.1,v6.2.1,v6.2.2.1,v6.2.2.2.1,v6.2.2.2.2.1,v6.2.2.2.2.2.1,(aa .i64 ((aa .i64 ((aa .i64 ((aa .i64 ((aa .i64 ((aa .i64 (d.2.1+(1:Int)))+(1:Int)))+(1:Int)))+(1:Int)))+(1:Int)))+(1:Int))),v6.2.2.2.2.2.2.2))[d.2.2.1.toNat]?).bind fun v8=>
 (jB k (v8.2.2.2.2.2.2.2.1,(aa .i64 ((aa .i64 ((aa .i64 ((aa .i64 ((aa .i64 ((aa .i64 ((aa .i64 (d.2.1+(1:Int)))+(1:Int)))+(1:Int)))+(1:Int)))+(1:Int)))+(1:Int)))+(1:Int))))).bind fun v9=>
 ((((((((d.2.2.2.set d.2.2.1.toNat (d.2.1,v0.2)).set d.2.2.1.toNat (v1.1,(aa .i64 (d.2.1+(1:Int))),v1.2.2)).set d.2.2.1.toNat (v2.1,v2.2.1,(aa .i64 ((aa .i64 (d.2.1+(1:Int)))+(1:Int))),v2.2.2.2)).set d.2.2.1.toNat (v3.1,v3.2.1,v3.2.2.1,(aa .i64 ((aa .i64 ((aa .i64 (d.2.1+(1:Int)))+(1:Int)))+(1:Int))),v3.2.2.2.2)).set d.2.2.1.toNat (v4.1,v4.2.1,v4.2.2.1,v4.2.2.2.1,(aa .i64 ((aa .i64 ((aa .i64 ((aa .i64 (d.2.1+(1:Int)))+(1:Int)))+(1:Int)))+(1:Int))),v4.2.2.2.2.2)).set d.2.2.1.toNat (v5.1,v5.2.1,v5.2.2.1,v5.2.2.2.1,v5.2.2.2.2.1,(aa .i64 ((aa .i64 ((aa .i64 ((aa .i64 ((aa .i64 (d.2.1+(1:Int)))+(1:Int)))+(1:Int)))+(1:Int)))+(1:Int))),v5.2.2.2.2.2.2)).set d.2.2.1.toNat (v6.1,v6.2.1,v6.2.2.1,v6.2.2.2.1,v6.2.2.2.2.1,v6.2.2.2.2.2.1,(aa .i64 ((aa .i64 ((aa .i64 ((aa .i64 ((aa .i64 ((aa .i64 (d.2.1+(1:Int)))+(1:Int)))+(1:Int)))+(1:Int)))+(1:Int)))+(1:Int))),v6.2.2.2.2.2.2.2))[d.2.2.1.toNat]?).bind fun v10=>
 (if 0≤d.2.2.1 then(if d.2.2.1<((((((((((d.2.2.2.set d.2.2.1.toNat (d.2.1,v0.2)).set d.2.2.1.toNat (v1.1,(aa .i64 (d.2.1+(1:Int))),v1.2.2)).set d.2.2.1.toNat (v2.1,v2.2.1,(aa .i64 ((aa .i64 (d.2.1+(1:Int)))+(1:Int))),v2.2.2.2)).set d.2.2.1.toNat (v3.1,v3.2.1,v3.2.2.1,(aa .i64 ((aa .i64 ((aa .i64 (d.2.1+(1:Int)))+(1:Int)))+(1:Int))),v3.2.2.2.2)).set d.2.2.1.toNat (v4.1,v4.2.1,v4.2.2.1,v4.2.2.2.1,(aa .i64 ((aa .i64 ((aa .i64 ((aa .i64 (d.2.1+(1:Int)))+(1:Int)))+(1:Int)))+(1:Int))),v4.2.2.2.2.2)).set d.2.2.1.toNat (v5.1,v5.2.1,v5.2.2.1,v5.2.2.2.1,v5.2.2.2.2.1,(aa .i64 ((aa .i64 ((aa .i64 ((aa .i64 ((aa .i64 (d.2.1+(1:Int)))+(1:Int)))+(1:Int)))+(1:Int)))+(1:Int))),v5.2.2.2.2.2.2)).set d.2.2.1.toNat (v6.1,v6.2.1,v6.2.2.1,v6.2.2.2.1,v6.2.2.2.2.1,v6.2.2.2.2.2.1,(aa .i64 ((aa .i64 ((aa .i64 ((aa .i64 ((aa .i64 ((aa .i64 (d.2.1+(1:Int)))+(1:Int)))+(1:Int)))+(1:Int)))+(1:Int)))+(1:Int))),v6.2.2.2.2.2.2.2)).set d.2.2.1.toNat (v10.1,v10.2.1,v10.2.2.1,v10.2.2.2.1,v10.2.2.2.2.1,v10.2.2.2.2.2.1,v10.2.2.2.2.2.2.1,v9.2,v10.2.2.2.2.2.2.2.2)).length:Nat):Int)then(((((((((d.2.2.2.set d.2.2.1.toNat (d.2.1,v0.2)).set d.2.2.1.toNat (v1.1,(aa .i64 (d.2.1+(1:Int))),v1.2.2)).set d.2.2.1.toNat (v2.1,v2.2.1,(aa .i64 ((aa .i64 (d.2.1+(1:Int)))+(1:Int))),v2.2.2.2)).set d.2.2.1.toNat (v3.1,v3.2.1,v3.2.2.1,(aa .i64 ((aa .i64 ((aa .i64 (d.2.1+(1:Int)))+(1:Int)))+(1:Int))),v3.2.2.2.2)).set d.2.2.1.toNat (v4.1,v4.2.1,v4.2.2.1,v4.2.2.2.1,(aa .i64 ((aa .i64 ((aa .i64 ((aa .i64 (d.2.1+(1:Int)))+(1:Int)))+(1:Int)))+(1:Int))),v4.2.2.2.2.2)).set d.2.2.1.toNat (v5.1,v5.2.1,v5.2.2.1,v5.2.2.2.1,v5.2.2.2.2.1,(aa .i64 ((aa .i64 ((aa .i64 ((aa .i64 ((aa .i64 (d.2.1+(1:Int)))+(1:Int)))+(1:Int)))+(1:Int)))+(1:Int))),v5.2.2.2.2.2.2)).set d.2.2.1.toNat (v6.1,v6.2.1,v6.2.2.1,v6.2.2.2.1,v6.2.2.2.2.1,v6.2.2.2.2.2.1,(aa .i64 ((aa .i64 ((aa .i64 ((aa .i64 ((aa .i64 ((aa .i64 (d.2.1+(1:Int)))+(1:Int)))+(1:Int)))+(1:Int)))+(1:Int)))+(1:Int))),v6.2.2.2.2.2.2.2)).set d.2.2.1.toNat (v10.1,v10.2.1,v10.2.2.1,v10.2.2.2.1,v10.2.2.2.2.1,v10.2.2.2.2.2.1,v10.2.2.2.2.2.2.1,v9.2,v10.2.2.2.2.2.2.2.2))[d.2.2.1.toNat]?).bind fun v11=>
 (((((((((d.2.2.2.set d.2.2.1.toNat (d.2.1,v0.2)).set d.2.2.1.toNat (v1.1,(aa .i64 (d.2.1+(1:Int))),v1.2.2)).set d.2.2.1.toNat (v2.1,v2.2.1,(aa .i64 ((aa .i64 (d.2.1+(1:Int)))+(1:Int))),v2.2.2.2)).set d.2.2.1.toNat (v3.1,v3.2.1,v3.2.2.1,(aa .i64 ((aa .i64 ((aa .i64 (d.2.1+(1:Int)))+(1:Int)))+(1:Int))),v3.2.2.2.2)).set d.2.2.1.toNat (v4.1,v4.2.1,v4.2.2.1,v4.2.2.2.1,(aa .i64 ((aa .i64 ((aa .i64 ((aa .i64 (d.2.1+(1:Int)))+(1:Int)))+(1:Int)))+(1:Int))),v4.2.2.2.2.2)).set d.2.2.1.toNat (v5.1,v5.2.1,v5.2.2.1,v5.2.2.2.1,v5.2.2.2.2.1,(aa .i64 ((aa .i64 ((aa .i64 ((aa .i64 ((aa .i64 (d.2.1+(1:Int)))+(1:Int)))+(1:Int)))+(1:Int)))+(1:Int))),v5.2.2.2.2.2.2)).set d.2.2.1.toNat (v6.1,v6.2.1,v6.2.2.1,v6.2.2.2.1,v6.2.2.2.2.1,v6.2.2.2.2.2.1,(aa .i64 ((aa .i64 ((aa .i64 ((aa .i64 ((aa .i64 ((aa .i64 (d.2.1+(1:Int)))+(1:Int)))+(1:Int)))+(1:Int)))+(1:Int)))+(1:Int))),v6.2.2.2.2.2.2.2)).set d.2.2.1.toNat (v10.1,v10.2.1,v10.2.2.1,v10.2.2.2.1,v10.2.2.2.2.1,v10.2.2.2.2.2.1,v10.2.2.2.2.2.2.1,v9.2,v10.2.2.2.2.2.2.2.2))[d.2.2.1.toNat]?).bind fun v12=>
 (eL k (v12.2.2.2.2.2.2.2.2.1,v9.1)).bind fun v13=>
 (((((((((d.2.2.2.set d.2.2.1.toNat (d.2.1,v0.2)).set d.2.2.1.toNat (v1.1,(aa .i64 (d.2.1+(1:Int))),v1.2.2)).set d.2.2.1.toNat (v2.1,v2.2.1,(aa .i64 ((aa .i64 (d.2.1+(1:Int)))+(1:Int))),v2.2.2.2)).set d.2.2.1.toNat (v3.1,v3.2.1,v3.2.2.1,(aa .i64 ((aa .i64 ((aa .i64 (d.2.1+(1:Int)))+(1:Int)))+(1:Int))),v3.2.2.2.2)).set d.2.2.1.toNat (v4.1,v4.2.1,v4.2.2.1,v4.2.2.2.1,(aa .i64 ((aa .i64 ((aa .i64 ((aa .i64 (d.2.1+(1:Int)))+(1:Int)))+(1:Int)))+(1:Int))),v4.2.2.2.2.2)).set d.2.2.1.toNat (v5.1,v5.2.1,v5.2.2.1,v5.2.2.2.1,v5.2.2.2.2.1,(aa .i64 ((aa .i64 ((aa .i64 ((aa .i64 ((aa .i64 (d.2.1+(1:Int)))+(1:Int)))+(1:Int)))+(1:Int)))+(1:Int))),v5.2.2.2.2.2.2)).set d.2.2.1.toNat (v6.1,v6.2.1,v6.2.2.1,v6.2.2.2.1,v6.2.2.2.2.1,v6.2.2.2.2.2.1,(aa .i64 ((aa .i64 ((aa .i64 ((aa .i64 ((aa .i64 ((aa .i64 (d.2.1+(1:Int)))+(1:Int)))+(1:Int)))+(1:Int)))+(1:Int)))+(1:Int))),v6.2.2.2.2.2.2.2)).set d.2.2.1.toNat (v10.1,v10.2.1,v10.2.2.1,v10.2.2.2.1,v10.2.2.2.2.1,v10.2.2.2.2.2.1,v10.2.2.2.2.2.2.1,v9.2,v10.2.2.2.2.2.2.2.2))[d.2.2.1.toNat]?).bind fun v14=>
 (if 0≤d.2.2.1 then(if d.2.2.1<(((((((((((d.2.2.2.set d.2.2.1.toNat (d.2.1,v0.2)).set d.2.2.1.toNat (v1.1,(aa .i64 (d.2.1+(1:Int))),v1.2.2)).set d.2.2.1.toNat (v2.1,v2.2.1,(aa .i64 ((aa .i64 (d.2.1+(1:Int)))+(1:Int))),v2.2.2.2)).set d.2.2.1.toNat (v3.1,v3.2.1,v3.2.2.1,(aa .i64 ((aa .i64 ((aa .i64 (d.2.1+(1:Int)))+(1:Int)))+(1:Int))),v3.2.2.2.2)).set d.2.2.1.toNat (v4.1,v4.2.1,v4.2.2.1,v4.2.2.2.1,(aa .i64 ((aa .i64 ((aa .i64 ((aa .i64 (d.2.1+(1:Int)))+(1:Int)))+(1:Int)))+(1:Int))),v4.2.2.2.2.2)).set d.2.2.1.toNat (v5.1,v5.2.1,v5.2.2.1,v5.2.2.2.1,v5.2.2.2.2.1,(aa .i64 ((aa .i64 ((aa .i64 ((aa .i64 ((aa .i64 (d.2.1+(1:Int)))+(1:Int)))+(1:Int)))+(1:Int)))+(1:Int))),v5.2.2.2.2.2.2)).set d.2.2.1.toNat (v6.1,v6.2.1,v6.2.2.1,v6.2.2.2.1,v6.2.2.2.2.1,v6.2.2.2.2.2.1,(aa .i64 ((aa .i64 ((aa .i64 ((aa .i64 ((aa .i64 ((aa .i64 (d.2.1+(1:Int)))+(1:Int)))+(1:Int)))+(1:Int)))+(1:Int)))+(1:Int))),v6.2.2.2.2.2.2.2)).set d.2.2.1.toNat (v10.1,v10.2.1,v10.2.2.1,v10.2.2.2.1,v10.2.2.2.2.1,v10.2.2.2.2.2.1,v10.2.2.2.2.2.2.1,v9.2,v10.2.2.2.2.2.2.2.2)).set d.2.2.1.toNat (v14.1,v14.2.1,v14.2.2.1,v14.2.2.2.1,v14.2.2.2.2.1,v14.2.2.2.2.2.1,v14.2.2.2.2.2.2.1,v14.2.2.2.2.2.2.2.1,v13.2,v14.2.2.2.2.2.2.2.2.2)).length:Nat):Int)then((((((((((d.2.2.2.set d.2.2.1.toNat (d.2.1,v0.2)).set d.2.2.1.toNat (v1.1,(aa .i64 (d.2.1+(1:Int))),v1.2.2)).set d.2.2.1.toNat (v2.1,v2.2.1,(aa .i64 ((aa .i64 (d.2.1+(1:Int)))+(1:Int))),v2.2.2.2)).set d.2.2.1.toNat (v3.1,v3.2.1,v3.2.2.1,(aa .i64 ((aa .i64 ((aa .i64 (d.2.1+(1:Int)))+(1:Int)))+(1:Int))),v3.2.2.2.2)).set d.2.2.1.toNat (v4.1,v4.2.1,v4.2.2.1,v4.2.2.2.1,(aa .i64 ((aa .i64 ((aa .i64 ((aa .i64 (d.2.1+(1:Int)))+(1:Int)))+(1:Int)))+(1:Int))),v4.2.2.2.2.2)).set d.2.2.1.toNat (v5.1,v5.2.1,v5.2.2.1,v5.2.2.2.1,v5.2.2.2.2.1,(aa .i64 ((aa .i64 ((aa .i64 ((aa .i64 ((aa .i64 (d.2.1+(1:Int)))+(1:Int)))+(1:Int)))+(1:Int)))+(1:Int))),v5.2.2.2.2.2.2)).set d.2.2.1.toNat (v6.1,v6.2.1,v6.2.2.1,v6.2.2.2.1,v6.2.2.2.2.1,v6.2.2.2.2.2.1,(aa .i64 ((aa .i64 ((aa .i64 ((aa .i64 ((aa .i64 ((aa .i64 (d.2.1+(1:Int)))+(1:Int)))+(1:Int)))+(1:Int)))+(1:Int)))+(1:Int))),v6.2.2.2.2.2.2.2)).set d.2.2.1.toNat (v10.1,v10.2.1,v10.2.2.1,v10.2.2.2.1,v10.2.2.2.2.1,v10.2.2.2.2.2.1,v10.2.2.2.2.2.2.1,v9.2,v10.2.2.2.2.2.2.2.2)).set d.2.2.1.toNat (v14.1,v14.2.1,v14.2.2.1,v14.2.2.2.1,v14.2.2.2.2.1,v14.2.2.2.2.2.1,v14.2.2.2.2.2.2.1,v14.2.2.2.2.2.2.2.1,v13.2,v14.2.2.2.2.2.2.2.2.2))[d.2.2.1.toNat]?).bind fun v15=>
 ((((((((((d.2.2.2.set d.2.2.1.toNat (d.2.1,v0.2)).set d.2.2.1.toNat (v1.1,(aa .i64 (d.2.1+(1:Int))),v1.2.2)).set d.2.2.1.toNat (v2.1,v2.2.1,(aa .i64 ((aa .i64 (d.2.1+(1:Int)))+(1:Int))),v2.2.2.2)).set d.2.2.1.toNat (v3.1,v3.2.1,v3.2.2.1,(aa .i64 ((aa .i64 ((aa .i64 (d.2.1+(1:Int)))+(1:Int)))+(1:Int))),v3.2.2.2.2)).set d.2.2.1.toNat (v4.1,v4.2.1,v4.2.2.1,v4.2.2.2.1,(aa .i64 ((aa .i64 ((aa .i64 ((aa .i64 (d.2.1+(1:Int)))+(1:Int)))+(1:Int)))+(1:Int))),v4.2.2.2.2.2)).set d.2.2.1.toNat (v5.1,v5.2.1,v5.2.2.1,v5.2.2.2.1,v5.2.2.2.2.1,(aa .i64 ((aa .i64 ((aa .i64 ((aa .i64 ((aa .i64 (d.2.1+(1:Int)))+(1:Int)))+(1:Int)))+(1:Int)))+(1:Int))),v5.2.2.2.2.2.2)).set d.2.2.1.toNat (v6.1,v6.2.1,v6.2.2.1,v6.2.2.2.1,v6.2.2.2.2.1,v6.2.2.2.2.2.1,(aa .i64 ((aa .i64 ((aa .i64 ((aa .i64 ((aa .i64 ((aa .i64 (d.2.1+(1:Int)))+(1:Int)))+(1:Int)))+(1:Int)))+(1:Int)))+(1:Int))),v6.2.2.2.2.2.2.2)).set d.2.2.1.toNat (v10.1,v10.2.1,v10.2.2.1,v10.2.2.2.1,v10.2.2.2.2.1,v10.2.2.2.2.2.1,v10.2.2.2.2.2.2.1,v9.2,v10.2.2.2.2.2.2.2.2)).set d.2.2.1.toNat (v14.1,v14.2.1,v14.2.2.1,v14.2.2.2.1,v14.2.2.2.2.1,v14.2.2.2.2.2.1,v14.2.2.2.2.2.2.1,v14.2.2.2.2.2.2.2.1,v13.2,v14.2.2.2.2.2.2.2.2.2))[d.2.2.1.toNat]?).bind fun v16=>
 (eL k (v16.2.2.2.2.2.2.2.2.2,v13.1)).bind fun v17=>
 ((((((((((d.2.2.2.set d.2.2.1.toNat (d.2.1,v0.2)).set d.2.2.1.toNat (v1.1,(aa .i64 (d.2.1+(1:Int))),v1.2.2)).set d.2.2.1.toNat (v2.1,v2.2.1,(aa .i64 ((aa .i64 (d.2.1+(1:Int)))+(1:Int))),v2.2.2.2)).set d.2.2.1.toNat (v3.1,v3.2.1,v3.2.2.1,(aa .i64 ((aa .i64 ((aa .i64 (d.2.1+(1:Int)))+(1:Int)))+(1:Int))),v3.2.2.2.2)).set d.2.2.1.toNat (v4.1,v4.2.1,v4.2.2.1,v4.2.2.2.1,(aa .i64 ((aa .i64 ((aa .i64 ((aa .i64 (d.2.1+(1:Int)))+(1:Int)))+(1:Int)))+(1:Int))),v4.2.2.2.2.2)).set d.2.2.1.toNat (v5.1,v5.2.1,v5.2.2.1,v5.2.2.2.1,v5.2.2.2.2.1,(aa .i64 ((aa .i64 ((aa .i64 ((aa .i64 ((aa .i64 (d.2.1+(1:Int)))+(1:Int)))+(1:Int)))+(1:Int)))+(1:Int))),v5.2.2.2.2.2.2)).set d.2.2.1.toNat (v6.1,v6.2.1,v6.2.2.1,v6.2.2.2.1,v6.2.2.2.2.1,v6.2.2.2.2.2.1,(aa .i64 ((aa .i64 ((aa .i64 ((aa .i64 ((aa .i64 ((aa .i64 (d.2.1+(1:Int)))+(1:Int)))+(1:Int)))+(1:Int)))+(1:Int)))+(1:Int))),v6.2.2.2.2.2.2.2)).set d.2.2.1.toNat (v10.1,v10.2.1,v10.2.2.1,v10.2.2.2.1,v10.2.2.2.2.1,v10.2.2.2.2.2.1,v10.2.2.2.2.2.2.1,v9.2,v10.2.2.2.2.2.2.2.2)).set d.2.2.1.toNat (v14.1,v14.2.1,v14.2.2.1,v14.2.2.2.1,v14.2.2.2.2.1,v14.2.2.2.2.2.1,v14.2.2.2.2.2.2.1,v14.2.2.2.2.2.2.2.1,v13.2,v14.2.2.2.2.2.2.2.2.2))[d.2.2.1.toNat]?).bind fun v18=>
 self ((),v17.1,(aa .i64 (d.2.2.1+(1:Int))),((((((((((d.2.2.2.set d.2.2.1.toNat (d.2.1,v0.2)).set d.2.2.1.toNat (v1.1,(aa .i64 (d.2.1+(1:Int))),v1.2.2)).set d.2.2.1.toNat (v2.1,v2.2.1,(aa .i64 ((aa .i64 (d.2.1+(1:Int)))+(1:Int))),v2.2.2.2)).set d.2.2.1.toNat (v3.1,v3.2.1,v3.2.2.1,(aa .i64 ((aa .i64 ((aa .i64 (d.2.1+(1:Int)))+(1:Int)))+(1:Int))),v3.2.2.2.2)).set d.2.2.1.toNat (v4.1,v4.2.1,v4.2.2.1,v4.2.2.2.1,(aa .i64 ((aa .i64 ((aa .i64 ((aa .i64 (d.2.1+(1:Int)))+(1:Int)))+(1:Int)))+(1:Int))),v4.2.2.2.2.2)).set d.2.2.1.toNat (v5.1,v5.2.1,v5.2.2.1,v5.2.2.2.1,v5.2.2.2.2.1,(aa .i64 ((aa .i64 ((aa .i64 ((aa .i64 ((aa .i64 (d.2.1+(1:Int)))+(1:Int)))+(1:Int)))+(1:Int)))+(1:Int))),v5.2.2.2.2.2.2)).set d.2.2.1.toNat (v6.1,v6.2.1,v6.2.2.1,v6.2.2.2.1,v6.2.2.2.2.1,v6.2.2.2.2.2.1,(aa .i64 ((aa .i64 ((aa .i64 ((aa .i64 ((aa .i64 ((aa .i64 (d.2.1+(1:Int)))+(1:Int)))+(1:Int)))+(1:Int)))+(1:Int)))+(1:Int))),v6.2.2.2.2.2.2.2)).set d.2.2.1.toNat (v10.1,v10.2.1,v10.2.2.1,v10.2.2.2.1,v10.2.2.2.2.1,v10.2.2.2.2.2.1,v10.2.2.2.2.2.2.1,v9.2,v10.2.2.2.2.2.2.2.2)).set d.2.2.1.toNat (v14.1,v14.2.1,v14.2.2.1,v14.2.2.2.1,v14.2.2.2.2.1,v14.2.2.2.2.2.1,v14.2.2.2.2.2.2.1,v14.2.2.2.2.2.2.2.1,v13.2,v14.2.2.2.2.2.2.2.2.2)).set d.2.2.1.toNat (v18.1,v18.2.1,v18.2.2.1,v18.2.2.2.1,v18.2.2.2.2.1,v18.2.2.2.2.2.1,v18.2.2.2.2.2.2.1,v18.2.2.2.2.2.2.2.1,v18.2.2.2.2.2.2.2.2.1,v17.2)))else none)else none)else none)else none)else none)else none)else none)else none)else none)else none)else none)else none)else none)else none)else none)else none)else none)else none)else none)else none)else some (d.2.1,d.2.2.2))
def tD(k:Nat)(x0:(List aA))(x1:Int):Option (Int×(List aA)):=
 iter k (fT k) ((),x1,(0:Int),x0)
theorem xC(k:Nat)(x0:(List aA))(x1:Int):ld (k+1) (x0,x1)=tD k x0 x1:=by kernel_rfl
def C8(k:Nat)(x0:ck)(x1:Int):Option Int:=
 (kx k (x0.2.1,x1)).bind fun y1=>
 (ld k (x0.2.2.1,y1.1)).bind fun y2=>
 (fX k (x0.2.2.2,y2.1)).bind fun y3=>
 some y3.1
theorem DZ(k:Nat)(x0:ck)(x1:Int):qp (k+1) (x0,x1)=C8 k x0 x1:=by kernel_rfl
def yy(k:Nat)(x0:aT)(x1:Int):Option Int:=
 (jB k (x0.2.2,x1)).bind fun y1=>
 some y1.1
theorem BI(k:Nat)(x0:aT)(x1:Int):ng (k+1) (x0,x1)=yy k x0 x1:=by kernel_rfl
def fg(k:Nat)(self:_→Option Int)(d:((List ByteArray)×aF)):=
 (bif (decide (d.2.2<(d.1.length:Int)))then(if 0≤d.2.2 then(d.1[d.2.2.toNat]?).bind fun v0=>
 (ez k d.2.1).bind fun v1=>
 (bif (!(EJ v0 v1))then some (-1:Int)else self (d.1,(aa .i64 (d.2.1+(1:Int))),(aa .i64 (d.2.2+(1:Int)))))else none)else some d.2.1)
def rH(k:Nat)(x0:(List ByteArray))(x1:Int):Option Int:=
 iter k (fg k) (x0,x1,(0:Int))
theorem vH(k:Nat)(x0:(List ByteArray))(x1:Int):fO (k+1) (x0,x1)=rH k x0 x1:=by kernel_rfl
def oH(k:Nat)(x0:ck)(x1:aT):Option Bool:=
 (vJ k (x0,(1048576:Int))).bind fun y1=>
 (bif (decide (y1<(0:Int)))then some true else(qm k (x1,y1)).bind fun y2=>
 (bif (decide (y2<(0:Int)))then some true else(kk k x0).bind fun y3=>
 (gD k x1).bind fun y4=>
 (qo k (y3,y4)).bind fun y5=>
 (kk k x0).bind fun y6=>
 (gD k x1).bind fun y7=>
 (mm k (y6,y7)).bind fun y8=>
 (dR k (y8,y5)).bind fun y9=>
 (bif (!y9)then some false else(kk k x0).bind fun y10=>
 (wI k (y6,y10)).bind fun y11=>
 (bif (!y11)then some false else(gD k x1).bind fun y12=>
 (ql k (y7,y12)).bind fun y13=>
 (bif (!y13)then some false else(qp k (y6,(1:Int))).bind fun y14=>
 (ng k (y7,y14)).bind fun y15=>
 (bif (decide (y15<(0:Int)))then some false else(dR k (y8,y5)).bind fun y16=>
 (bif (!y16)then some false else(fX k (y8,(1:Int))).bind fun y17=>
 (fO k (y17.2,(1:Int))).bind fun y18=>
 (bif (decide (y18<(0:Int)))then some false else(bif (y18 != y17.1)then some false else(kk k x0).bind fun y19=>
 (gD k x1).bind fun y20=>
 (mm k (y19,y20)).bind fun y21=>
 (dR k (y21,y5)).bind fun y22=>
 (bif (!y22)then some false else(fO k (y17.2,(1:Int))).bind fun y23=>
 (bif (decide (y23<(0:Int)))then some false else(bif (y23 != y17.1)then some false else some true))))))))))))
theorem sS(k:Nat)(x0:ck)(x1:aT):mM (k+1) (x0,x1)=oH k x0 x1:=by kernel_rfl
end
end Go.Proofs.YtkdcfeopelbojaaGreatDoor
