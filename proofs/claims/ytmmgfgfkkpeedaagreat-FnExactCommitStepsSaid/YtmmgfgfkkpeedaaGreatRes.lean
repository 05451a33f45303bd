/- The tables, the residual functions and lemmas of this seat: parts of the proof of the law; conditions: those that each names. -/
import Derived.Test.YtmmgfgfkkpeedaaGreatTab
set_option maxRecDepth 100000
set_option maxHeartbeats 0
set_option linter.unusedVariables false
namespace Go.Proofs.YtmmgfgfkkpeedaaGreat
open Go.Eng
noncomputable section
def AO(k:Nat)(x0:(List az))(x1:Int):Option Int:=
 (bif (decide ((aa .i64 (x1-(x0.length:Int)))<(0:Int)))then some (-1:Int)else some (aa .i64 (x1-(x0.length:Int))))
theorem E3(k:Nat)(x0:(List az))(x1:Int):pa (k+1) (x0,x1)=AO k x0 x1:=by kernel_rfl
def Hm(k:Nat)(x0:(List Int))(x1:Int):Option Int:=
 (bif (decide ((aa .i64 (x1-(x0.length:Int)))<(0:Int)))then some (-1:Int)else some (aa .i64 (x1-(x0.length:Int))))
theorem H5(k:Nat)(x0:(List Int))(x1:Int):nO (k+1) (x0,x1)=Hm k x0 x1:=by kernel_rfl
def uG(k:Nat)(x0:(List av))(x1:Int):Option Int:=
 (bif (decide ((aa .i64 (x1-(x0.length:Int)))<(0:Int)))then some (-1:Int)else some (aa .i64 (x1-(x0.length:Int))))
theorem zm(k:Nat)(x0:(List av))(x1:Int):gA (k+1) (x0,x1)=uG k x0 x1:=by kernel_rfl
def Em(k:Nat)(x0:ax)(x1:Int):Option Int:=
 (nO k (x0.2.2.2.2.2.2.2.1,x1)).bind fun y1=>
 (bif (decide (y1<(0:Int)))then some (-1:Int)else(gA k (x0.2.2.2.2.2.2.2.2.1,y1)).bind fun y2=>
 (bif (decide (y2<(0:Int)))then some (-1:Int)else(gA k (x0.2.2.2.2.2.2.2.2.2,y2)).bind fun y3=>
 (bif (decide (y3<(0:Int)))then some (-1:Int)else some y3)))
theorem Fp(k:Nat)(x0:ax)(x1:Int):iW (k+1) (x0,x1)=Em k x0 x1:=by kernel_rfl
def vc(k:Nat)(self:_→Option Int)(d:((List ax)×az)):=
 (bif (decide (d.2.2<(d.1.length:Int)))then(if 0≤d.2.2 then(d.1[d.2.2.toNat]?).bind fun v0=>
 (iW k (v0,d.2.1)).bind fun v1=>
 (bif (decide (v1<(0:Int)))then some (-1:Int)else self (d.1,v1,(aa .i64 (d.2.2+(1:Int)))))else none)else some d.2.1)
def BF(k:Nat)(x0:(List ax))(x1:Int):Option Int:=
 (bif (decide ((aa .i64 (x1-(x0.length:Int)))<(0:Int)))then some (-1:Int)else iter k (vc k) (x0,(aa .i64 (x1-(x0.length:Int))),(0:Int)))
theorem DE(k:Nat)(x0:(List ax))(x1:Int):py (k+1) (x0,x1)=BF k x0 x1:=by kernel_rfl
def sB(k:Nat)(self:_→Option Int)(d:((List ByteArray)×az)):=
 (bif (decide (d.2.2<(d.1.length:Int)))then(if 0≤d.2.2 then(d.1[d.2.2.toNat]?).bind fun v0=>
 (bif (decide ((aa .i64 (d.2.1-(v0.size:Int)))<(0:Int)))then some (-1:Int)else self (d.1,(aa .i64 (d.2.1-(v0.size:Int))),(aa .i64 (d.2.2+(1:Int)))))else none)else some d.2.1)
def yC(k:Nat)(x0:(List ByteArray))(x1:Int):Option Int:=
 (bif (decide ((aa .i64 (x1-(x0.length:Int)))<(0:Int)))then some (-1:Int)else iter k (sB k) (x0,(aa .i64 (x1-(x0.length:Int))),(0:Int)))
theorem CW(k:Nat)(x0:(List ByteArray))(x1:Int):kf (k+1) (x0,x1)=yC k x0 x1:=by kernel_rfl
def Mi(k:Nat)(x0:cQ)(x1:Int):Option Int:=
 (pa k (x0.2.1,x1)).bind fun y1=>
 (bif (decide (y1<(0:Int)))then some (-1:Int)else(py k (x0.2.2.1,y1)).bind fun y2=>
 (bif (decide (y2<(0:Int)))then some (-1:Int)else(kf k (x0.2.2.2,y2)).bind fun y3=>
 (bif (decide (y3<(0:Int)))then some (-1:Int)else some y3)))
theorem Lg(k:Nat)(x0:cQ)(x1:Int):rV (k+1) (x0,x1)=Mi k x0 x1:=by kernel_rfl
def Dr(k:Nat)(x0:az):Option az:=
 some (x0.1,x0.2)
theorem FZ(k:Nat)(x0:az):me (k+1) (x0)=Dr k x0:=by kernel_rfl
def u0(k:Nat)(self:_→Option (List az))(d:((List az)×((List az)×Int))):=
 (bif (decide (d.2.2<(d.1.length:Int)))then(if 0≤d.2.2 then(d.1[d.2.2.toNat]?).bind fun v0=>
 (me k v0).bind fun v1=>
 (if 0≤d.2.2 then(if d.2.2<(d.2.1.length:Int)then(d.2.1[d.2.2.toNat]?).bind fun v2=>
 self (d.1,(d.2.1.set d.2.2.toNat v1),(aa .i64 (d.2.2+(1:Int))))else none)else none)else none)else some d.2.1)
def BY(k:Nat)(x0:(List az)):Option (List az):=
 (if 0≤(x0.length:Int)then(if(x0.length:Int)≤(x0.length:Int)then(if(x0.length:Int)*16≤(af:Int)then iter k (u0 k) (x0,(List.replicate (x0.length:Int).toNat ((0:Int),(0:Int))),(0:Int))else none)else none)else none)
theorem Dc(k:Nat)(x0:(List az)):po (k+1) (x0)=BY k x0:=by kernel_rfl
def qw(k:Nat)(self:_→Option (List Int))(d:((List Int)×((List Int)×Int))):=
 (bif (decide (d.2.2<(d.1.length:Int)))then(if 0≤d.2.2 then(d.1[d.2.2.toNat]?).bind fun v0=>
 (if 0≤d.2.2 then(if d.2.2<(d.2.1.length:Int)then(d.2.1[d.2.2.toNat]?).bind fun v1=>
 self (d.1,(d.2.1.set d.2.2.toNat v0),(aa .i64 (d.2.2+(1:Int))))else none)else none)else none)else some d.2.1)
def GM(k:Nat)(x0:(List Int)):Option (List Int):=
 (if 0≤(x0.length:Int)then(if(x0.length:Int)≤(x0.length:Int)then(if(x0.length:Int)*8≤(af:Int)then iter k (qw k) (x0,(List.replicate (x0.length:Int).toNat (0:Int)),(0:Int))else none)else none)else none)
theorem HQ(k:Nat)(x0:(List Int)):oh (k+1) (x0)=GM k x0:=by kernel_rfl
def vY(k:Nat)(x0:av):Option av:=
 some (x0.1,x0.2.1,x0.2.2)
theorem Aw(k:Nat)(x0:av):iS (k+1) (x0)=vY k x0:=by kernel_rfl
def pB(k:Nat)(self:_→Option (List av))(d:((List av)×((List av)×Int))):=
 (bif (decide (d.2.2<(d.1.length:Int)))then(if 0≤d.2.2 then(d.1[d.2.2.toNat]?).bind fun v0=>
 (iS k v0).bind fun v1=>
 (if 0≤d.2.2 then(if d.2.2<(d.2.1.length:Int)then(d.2.1[d.2.2.toNat]?).bind fun v2=>
 self (d.1,(d.2.1.set d.2.2.toNat v1),(aa .i64 (d.2.2+(1:Int))))else none)else none)else none)else some d.2.1)
def tR(k:Nat)(x0:(List av)):Option (List av):=
 (if 0≤(x0.length:Int)then(if(x0.length:Int)≤(x0.length:Int)then(if(x0.length:Int)*24≤(af:Int)then iter k (pB k) (x0,(List.replicate (x0.length:Int).toNat ((0:Int),(0:Int),(0:Int))),(0:Int))else none)else none)else none)
theorem zx(k:Nat)(x0:(List av)):gK (k+1) (x0)=tR k x0:=by kernel_rfl
def DW(k:Nat)(x0:ax):Option ax:=
 (oh k x0.2.2.2.2.2.2.2.1).bind fun y1=>
 (gK k x0.2.2.2.2.2.2.2.2.1).bind fun y2=>
 (gK k x0.2.2.2.2.2.2.2.2.2).bind fun y3=>
 some (x0.1,x0.2.1,x0.2.2.1,x0.2.2.2.1,x0.2.2.2.2.1,x0.2.2.2.2.2.1,x0.2.2.2.2.2.2.1,y1,y2,y3)
theorem Fc(k:Nat)(x0:ax):mZ (k+1) (x0)=DW k x0:=by kernel_rfl
def uY(k:Nat)(self:_→Option (List ax))(d:((List ax)×((List ax)×Int))):=
 (bif (decide (d.2.2<(d.1.length:Int)))then(if 0≤d.2.2 then(d.1[d.2.2.toNat]?).bind fun v0=>
 (mZ k v0).bind fun v1=>
 (if 0≤d.2.2 then(if d.2.2<(d.2.1.length:Int)then(d.2.1[d.2.2.toNat]?).bind fun v2=>
 self (d.1,(d.2.1.set d.2.2.toNat v1),(aa .i64 (d.2.2+(1:Int))))else none)else none)else none)else some d.2.1)
def AR(k:Nat)(x0:(List ax)):Option (List ax):=
 (if 0≤(x0.length:Int)then(if(x0.length:Int)≤(x0.length:Int)then(if(x0.length:Int)*128≤(af:Int)then iter k (uY k) (x0,(List.replicate (x0.length:Int).toNat ((0:Int),(0:Int),(0:Int),(0:Int),(0:Int),(0:Int),(0:Int),([]:List Int),([]:List av),([]:List av))),(0:Int))else none)else none)else none)
theorem EI(k:Nat)(x0:(List ax)):oY (k+1) (x0)=AR k x0:=by kernel_rfl
def mG(k:Nat)(self:_→Option (List ByteArray))(d:((List ByteArray)×((List ByteArray)×Int))):=
 (bif (decide (d.2.2<(d.1.length:Int)))then(if 0≤d.2.2 then(d.1[d.2.2.toNat]?).bind fun v0=>
 (if 0≤d.2.2 then(if d.2.2<(d.2.1.length:Int)then(d.2.1[d.2.2.toNat]?).bind fun v1=>
 self (d.1,(d.2.1.set d.2.2.toNat v0),(aa .i64 (d.2.2+(1:Int))))else none)else none)else none)else some d.2.1)
def zd(k:Nat)(x0:(List ByteArray)):Option (List ByteArray):=
 (if 0≤(x0.length:Int)then(if(x0.length:Int)≤(x0.length:Int)then(if(x0.length:Int)*16≤(af:Int)then iter k (mG k) (x0,(List.replicate (x0.length:Int).toNat ByteArray.empty),(0:Int))else none)else none)else none)
theorem CD(k:Nat)(x0:(List ByteArray)):jG (k+1) (x0)=zd k x0:=by kernel_rfl
def Lw(k:Nat)(x0:cQ):Option cQ:=
 (po k x0.2.1).bind fun y1=>
 (oY k x0.2.2.1).bind fun y2=>
 (jG k x0.2.2.2).bind fun y3=>
 some (x0.1,y1,y2,y3)
theorem Ll(k:Nat)(x0:cQ):iZ (k+1) (x0)=Lw k x0:=by kernel_rfl
def so(k:Nat)(self:_→Option Bool)(d:((List ByteArray)×((List ByteArray)×Int))):=
 (bif (decide (d.2.2<(d.1.length:Int)))then(if 0≤d.2.2 then(d.1[d.2.2.toNat]?).bind fun v0=>
 (if 0≤d.2.2 then(d.2.1[d.2.2.toNat]?).bind fun v1=>
 (bif (!(lB v0 v1))then some false else self (d.1,d.2.1,(aa .i64 (d.2.2+(1:Int)))))else none)else none)else some true)
def zo(k:Nat)(x0:(List ByteArray))(x1:(List ByteArray)):Option Bool:=
 (bif ((x0.length:Int) != (x1.length:Int))then some false else iter k (so k) (x0,x1,(0:Int)))
theorem CH(k:Nat)(x0:(List ByteArray))(x1:(List ByteArray)):ke (k+1) (x0,x1)=zo k x0 x1:=by kernel_rfl
def DB(k:Nat)(x0:ar)(x1:ar):Option Bool:=
 (bif (x0.1 != x1.1)then some false else(bif (!(lB x0.2 x1.2))then some false else some true))
theorem Gc(k:Nat)(x0:ar)(x1:ar):js (k+1) (x0,x1)=DB k x0 x1:=by kernel_rfl
def u7(k:Nat)(self:_→Option Bool)(d:((List ar)×((List ar)×Int))):=
 (bif (decide (d.2.2<(d.1.length:Int)))then(if 0≤d.2.2 then(d.1[d.2.2.toNat]?).bind fun v0=>
 (if 0≤d.2.2 then(d.2.1[d.2.2.toNat]?).bind fun v1=>
 (js k (v0,v1)).bind fun v2=>
 (bif (!v2)then some false else self (d.1,d.2.1,(aa .i64 (d.2.2+(1:Int)))))else none)else none)else some true)
def BK(k:Nat)(x0:(List ar))(x1:(List ar)):Option Bool:=
 (bif ((x0.length:Int) != (x1.length:Int))then some false else iter k (u7 k) (x0,x1,(0:Int)))
theorem DR(k:Nat)(x0:(List ar))(x1:(List ar)):pg (k+1) (x0,x1)=BK k x0 x1:=by kernel_rfl
def GF(k:Nat)(x0:bF)(x1:bF):Option Bool:=
 (ke k (x0.1,x1.1)).bind fun y1=>
 (bif (!y1)then some false else(pg k (x0.2,x1.2)).bind fun y2=>
 (bif (!y2)then some false else some true))
theorem IE(k:Nat)(x0:bF)(x1:bF):tn (k+1) (x0,x1)=GF k x0 x1:=by kernel_rfl
def EE(k:Nat)(x0:az)(x1:az):Option Bool:=
 (bif (x0.1 != x1.1)then some false else(bif (x0.2 != x1.2)then some false else some true))
theorem Ge(k:Nat)(x0:az)(x1:az):ml (k+1) (x0,x1)=EE k x0 x1:=by kernel_rfl
def uh(k:Nat)(self:_→Option Bool)(d:((List az)×((List az)×Int))):=
 (bif (decide (d.2.2<(d.1.length:Int)))then(if 0≤d.2.2 then(d.1[d.2.2.toNat]?).bind fun v0=>
 (if 0≤d.2.2 then(d.2.1[d.2.2.toNat]?).bind fun v1=>
 (ml k (v0,v1)).bind fun v2=>
 (bif (!v2)then some false else self (d.1,d.2.1,(aa .i64 (d.2.2+(1:Int)))))else none)else none)else some true)
def Ba(k:Nat)(x0:(List az))(x1:(List az)):Option Bool:=
 (bif ((x0.length:Int) != (x1.length:Int))then some false else iter k (uh k) (x0,x1,(0:Int)))
theorem Eu(k:Nat)(x0:(List az))(x1:(List az)):ph (k+1) (x0,x1)=Ba k x0 x1:=by kernel_rfl
def yE(k:Nat)(self:_→Option Bool)(d:((List Int)×((List Int)×Int))):=
 (bif (decide (d.2.2<(d.1.length:Int)))then(if 0≤d.2.2 then(d.1[d.2.2.toNat]?).bind fun v0=>
 (if 0≤d.2.2 then(d.2.1[d.2.2.toNat]?).bind fun v1=>
 (bif (v0 != v1)then some false else self (d.1,d.2.1,(aa .i64 (d.2.2+(1:Int)))))else none)else none)else some true)
def Hl(k:Nat)(x0:(List Int))(x1:(List Int)):Option Bool:=
 (bif ((x0.length:Int) != (x1.length:Int))then some false else iter k (yE k) (x0,x1,(0:Int)))
theorem Iy(k:Nat)(x0:(List Int))(x1:(List Int)):n8 (k+1) (x0,x1)=Hl k x0 x1:=by kernel_rfl
def xd(k:Nat)(x0:av)(x1:av):Option Bool:=
 (bif (x0.1 != x1.1)then some false else(bif (x0.2.1 != x1.2.1)then some false else(bif (x0.2.2 != x1.2.2)then some false else some true)))
theorem As(k:Nat)(x0:av)(x1:av):iR (k+1) (x0,x1)=xd k x0 x1:=by kernel_rfl
def pG(k:Nat)(self:_→Option Bool)(d:((List av)×((List av)×Int))):=
 (bif (decide (d.2.2<(d.1.length:Int)))then(if 0≤d.2.2 then(d.1[d.2.2.toNat]?).bind fun v0=>
 (if 0≤d.2.2 then(d.2.1[d.2.2.toNat]?).bind fun v1=>
 (iR k (v0,v1)).bind fun v2=>
 (bif (!v2)then some false else self (d.1,d.2.1,(aa .i64 (d.2.2+(1:Int)))))else none)else none)else some true)
def u4(k:Nat)(x0:(List av))(x1:(List av)):Option Bool:=
 (bif ((x0.length:Int) != (x1.length:Int))then some false else iter k (pG k) (x0,x1,(0:Int)))
theorem zz(k:Nat)(x0:(List av))(x1:(List av)):gC (k+1) (x0,x1)=u4 k x0 x1:=by kernel_rfl
def Dp(k:Nat)(x0:ax)(x1:ax):Option Bool:=
 (bif (x0.1 != x1.1)then some false else(bif (x0.2.1 != x1.2.1)then some false else(bif (x0.2.2.1 != x1.2.2.1)then some false else(bif (x0.2.2.2.1 != x1.2.2.2.1)then some false else(bif (x0.2.2.2.2.1 != x1.2.2.2.2.1)then some false else(bif (x0.2.2.2.2.2.1 != x1.2.2.2.2.2.1)then some false else(bif (x0.2.2.2.2.2.2.1 != x1.2.2.2.2.2.2.1)then some false else(n8 k (x0.2.2.2.2.2.2.2.1,x1.2.2.2.2.2.2.2.1)).bind fun y1=>
 (bif (!y1)then some false else(gC k (x0.2.2.2.2.2.2.2.2.1,x1.2.2.2.2.2.2.2.2.1)).bind fun y2=>
 (bif (!y2)then some false else(gC k (x0.2.2.2.2.2.2.2.2.2,x1.2.2.2.2.2.2.2.2.2)).bind fun y3=>
 (bif (!y3)then some false else some true))))))))))
theorem Gd(k:Nat)(x0:ax)(x1:ax):mo (k+1) (x0,x1)=Dp k x0 x1:=by kernel_rfl
def uc(k:Nat)(self:_→Option Bool)(d:((List ax)×((List ax)×Int))):=
 (bif (decide (d.2.2<(d.1.length:Int)))then(if 0≤d.2.2 then(d.1[d.2.2.toNat]?).bind fun v0=>
 (if 0≤d.2.2 then(d.2.1[d.2.2.toNat]?).bind fun v1=>
 (mo k (v0,v1)).bind fun v2=>
 (bif (!v2)then some false else self (d.1,d.2.1,(aa .i64 (d.2.2+(1:Int)))))else none)else none)else some true)
def BL(k:Nat)(x0:(List ax))(x1:(List ax)):Option Bool:=
 (bif ((x0.length:Int) != (x1.length:Int))then some false else iter k (uc k) (x0,x1,(0:Int)))
theorem Dk(k:Nat)(x0:(List ax))(x1:(List ax)):pc (k+1) (x0,x1)=BL k x0 x1:=by kernel_rfl
def Md(k:Nat)(x0:cQ)(x1:cQ):Option Bool:=
 (bif (x0.1 != x1.1)then some false else(ph k (x0.2.1,x1.2.1)).bind fun y1=>
 (bif (!y1)then some false else(pc k (x0.2.2.1,x1.2.2.1)).bind fun y2=>
 (bif (!y2)then some false else(ke k (x0.2.2.2,x1.2.2.2)).bind fun y3=>
 (bif (!y3)then some false else some true))))
theorem KY(k:Nat)(x0:cQ)(x1:cQ):rJ (k+1) (x0,x1)=Md k x0 x1:=by kernel_rfl
def G8(k:Nat)(x0:fG)(x1:fG):Option Bool:=
 (bif (x0.1 != x1.1)then some false else(bif (x0.2.1 != x1.2.1)then some false else(n8 k (x0.2.2,x1.2.2)).bind fun y1=>
 (bif (!y1)then some false else some true)))
theorem H8(k:Nat)(x0:fG)(x1:fG):tI (k+1) (x0,x1)=G8 k x0 x1:=by kernel_rfl
def Hv(k:Nat)(x0:av)(x1:av):Option Bool:=
 (bif (x0.1 != x1.1)then some false else(bif (x0.2.1 != x1.2.1)then some false else(bif (x0.2.2 != x1.2.2)then some false else some true)))
theorem HW(k:Nat)(x0:av)(x1:av):nX (k+1) (x0,x1)=Hv k x0 x1:=by kernel_rfl
def wQ(k:Nat)(self:_→Option Bool)(d:((List av)×((List av)×Int))):=
 (bif (decide (d.2.2<(d.1.length:Int)))then(if 0≤d.2.2 then(d.1[d.2.2.toNat]?).bind fun v0=>
 (if 0≤d.2.2 then(d.2.1[d.2.2.toNat]?).bind fun v1=>
 (nX k (v0,v1)).bind fun v2=>
 (bif (!v2)then some false else self (d.1,d.2.1,(aa .i64 (d.2.2+(1:Int)))))else none)else none)else some true)
def Di(k:Nat)(x0:(List av))(x1:(List av)):Option Bool:=
 (bif ((x0.length:Int) != (x1.length:Int))then some false else iter k (wQ k) (x0,x1,(0:Int)))
theorem F5(k:Nat)(x0:(List av))(x1:(List av)):qZ (k+1) (x0,x1)=Di k x0 x1:=by kernel_rfl
def GW(k:Nat)(x0:bL)(x1:bL):Option Bool:=
 (tI k (x0.1,x1.1)).bind fun y1=>
 (bif (!y1)then some false else(qZ k (x0.2,x1.2)).bind fun y2=>
 (bif (!y2)then some false else some true))
theorem Ip(k:Nat)(x0:bL)(x1:bL):nP (k+1) (x0,x1)=GW k x0 x1:=by kernel_rfl
def wc(k:Nat)(self:_→Option Bool)(d:((List bL)×((List bL)×Int))):=
 (bif (decide (d.2.2<(d.1.length:Int)))then(if 0≤d.2.2 then(d.1[d.2.2.toNat]?).bind fun v0=>
 (if 0≤d.2.2 then(d.2.1[d.2.2.toNat]?).bind fun v1=>
 (nP k (v0,v1)).bind fun v2=>
 (bif (!v2)then some false else self (d.1,d.2.1,(aa .i64 (d.2.2+(1:Int)))))else none)else none)else some true)
def ED(k:Nat)(x0:(List bL))(x1:(List bL)):Option Bool:=
 (bif ((x0.length:Int) != (x1.length:Int))then some false else iter k (wc k) (x0,x1,(0:Int)))
theorem F9(k:Nat)(x0:(List bL))(x1:(List bL)):ry (k+1) (x0,x1)=ED k x0 x1:=by kernel_rfl
def A7(k:Nat)(x0:bx)(x1:bx):Option Bool:=
 (rJ k (x0.1,x1.1)).bind fun y1=>
 (bif (!y1)then some false else(ry k (x0.2,x1.2)).bind fun y2=>
 (bif (!y2)then some false else some true))
theorem Eg(k:Nat)(x0:bx)(x1:bx):pf (k+1) (x0,x1)=A7 k x0 x1:=by kernel_rfl
def xQ(k:Nat)(x0:aY)(x1:aY):Option Bool:=
 (tn k (x0.1,x1.1)).bind fun y1=>
 (bif (!y1)then some false else(bif (x0.2.1 != x1.2.1)then some false else(pf k (x0.2.2,x1.2.2)).bind fun y2=>
 (bif (!y2)then some false else some true)))
theorem Cd(k:Nat)(x0:aY)(x1:aY):nC (k+1) (x0,x1)=xQ k x0 x1:=by kernel_rfl
def gy(k:Nat)(self:_→Option (Int×(List az)))(d:(Unit×(Int×(Int×(List az))))):=
 (bif (decide (d.2.2.1<(d.2.2.2.length:Int)))then(if 0≤d.2.2.1 then(if d.2.2.1<(d.2.2.2.length:Int)then(d.2.2.2[d.2.2.1.toNat]?).bind fun v0=>
 (if 0≤d.2.2.1 then(if d.2.2.1<(((d.2.2.2.set d.2.2.1.toNat (d.2.1,v0.2)).length:Nat):Int)then((d.2.2.2.set d.2.2.1.toNat (d.2.1,v0.2))[d.2.2.1.toNat]?).bind fun v1=>
 self ((),(aa .i64 ((aa .i64 (d.2.1+(1:Int)))+(1:Int))),(aa .i64 (d.2.2.1+(1:Int))),((d.2.2.2.set d.2.2.1.toNat (d.2.1,v0.2)).set d.2.2.1.toNat (v1.1,(aa .i64 (d.2.1+(1:Int))))))else none)else none)else none)else none)else some (d.2.1,d.2.2.2))
def wU(k:Nat)(x0:(List az))(x1:Int):Option (Int×(List az)):=
 iter k (gy k) ((),x1,(0:Int),x0)
theorem AB(k:Nat)(x0:(List az))(x1:Int):mL (k+1) (x0,x1)=wU k x0 x1:=by kernel_rfl
def jD(k:Nat)(self:_→Option (Int×(List Int)))(d:(Unit×fG)):=
 (bif (decide (d.2.2.1<(d.2.2.2.length:Int)))then(if 0≤d.2.2.1 then(if d.2.2.1<(d.2.2.2.length:Int)then(d.2.2.2[d.2.2.1.toNat]?).bind fun v0=>
 self ((),(aa .i64 (d.2.1+(1:Int))),(aa .i64 (d.2.2.1+(1:Int))),(d.2.2.2.set d.2.2.1.toNat d.2.1))else none)else none)else some (d.2.1,d.2.2.2))
def BV(k:Nat)(x0:(List Int))(x1:Int):Option (Int×(List Int)):=
 iter k (jD k) ((),x1,(0:Int),x0)
theorem C3(k:Nat)(x0:(List Int))(x1:Int):kH (k+1) (x0,x1)=BV k x0 x1:=by kernel_rfl
def eU(k:Nat)(self:_→Option (Int×(List av)))(d:(Unit×(Int×(Int×(List av))))):=
 (bif (decide (d.2.2.1<(d.2.2.2.length:Int)))then(if 0≤d.2.2.1 then(if d.2.2.1<(d.2.2.2.length:Int)then(d.2.2.2[d.2.2.1.toNat]?).bind fun v0=>
 (if 0≤d.2.2.1 then(if d.2.2.1<(((d.2.2.2.set d.2.2.1.toNat (d.2.1,v0.2)).length:Nat):Int)then((d.2.2.2.set d.2.2.1.toNat (d.2.1,v0.2))[d.2.2.1.toNat]?).bind fun v1=>
 (if 0≤d.2.2.1 then(if d.2.2.1<((((d.2.2.2.set d.2.2.1.toNat (d.2.1,v0.2)).set d.2.2.1.toNat (v1.1,(aa .i64 (d.2.1+(1:Int))),v1.2.2)).length:Nat):Int)then(((d.2.2.2.set d.2.2.1.toNat (d.2.1,v0.2)).set d.2.2.1.toNat (v1.1,(aa .i64 (d.2.1+(1:Int))),v1.2.2))[d.2.2.1.toNat]?).bind fun v2=>
 self ((),(aa .i64 ((aa .i64 ((aa .i64 (d.2.1+(1:Int)))+(1:Int)))+(1:Int))),(aa .i64 (d.2.2.1+(1:Int))),(((d.2.2.2.set d.2.2.1.toNat (d.2.1,v0.2)).set d.2.2.1.toNat (v1.1,(aa .i64 (d.2.1+(1:Int))),v1.2.2)).set d.2.2.1.toNat (v2.1,v2.2.1,(aa .i64 ((aa .i64 (d.2.1+(1:Int)))+(1:Int))))))else none)else none)else none)else none)else none)else none)else some (d.2.1,d.2.2.2))
def qO(k:Nat)(x0:(List av))(x1:Int):Option (Int×(List av)):=
 iter k (eU k) ((),x1,(0:Int),x0)
theorem vG(k:Nat)(x0:(List av))(x1:Int):fj (k+1) (x0,x1)=qO k x0 x1:=by kernel_rfl
def gx(k:Nat)(self:_→Option (Int×(List ax)))(d:(Unit×(Int×(Int×(List ax))))):=
 (bif (decide (d.2.2.1<(d.2.2.2.length:Int)))then(if 0≤d.2.2.1 then(if d.2.2.1<(d.2.2.2.length:Int)then(d.2.2.2[d.2.2.1.toNat]?).bind fun v0=>
 (if 0≤d.2.2.1 then(if d.2.2.1<(((d.2.2.2.set d.2.2.1.toNat (d.2.1,v0.2)).length:Nat):Int)then((d.2.2.2.set d.2.2.1.toNat (d.2.1,v0.2))[d.2.2.1.toNat]?).bind fun v1=>
 (if 0≤d.2.2.1 then(if d.2.2.1<((((d.2.2.2.set d.2.2.1.toNat (d.2.1,v0.2)).set d.2.2.1.toNat (v1.1,(aa .i64 (d.2.1+(1:Int))),v1.2.2)).length:Nat):Int)then(((d.2.2.2.set d.2.2.1.toNat (d.2.1,v0.2)).set d.2.2.1.toNat (v1.1,(aa .i64 (d.2.1+(1:Int))),v1.2.2))[d.2.2.1.toNat]?).bind fun v2=>
 (if 0≤d.2.2.1 then(if d.2.2.1<(((((d.2.2.2.set d.2.2.1.toNat (d.2.1,v0.2)).set d.2.2.1.toNat (v1.1,(aa .i64 (d.2.1+(1:Int))),v1.2.2)).set d.2.2.1.toNat (v2.1,v2.2.1,(aa .i64 ((aa .i64 (d.2.1+(1:Int)))+(1:Int))),v2.2.2.2)).length:Nat):Int)then((((d.2.2.2.set d.2.2.1.toNat (d.2.1,v0.2)).set d.2.2.1.toNat (v1.1,(aa .i64 (d.2.1+(1:Int))),v1.2.2)).set d.2.2.1.toNat (v2.1,v2.2.1,(aa .i64 ((aa .i64 (d.2.1+(1:Int)))+(1:Int))),v2.2.2.2))[d.2.2.1.toNat]?).bind fun v3=>
 (if 0≤d.2.2.1 then(if d.2.2.1<((((((d.2.2.2.set d.2.2.1.toNat (d.2.1,v0.2)).set d.2.2.1.toNat (v1.1,(aa .i64 (d.2.1+(1:Int))),v1.2.2)).set d.2.2.1.toNat (v2.1,v2.2.1,(aa .i64 ((aa .i64 (d.2.1+(1:Int)))+(1:Int))),v2.2.2.2)).set d.2.2.1.toNat (v3.1,v3.2.1,v3.2.2.1,(aa .i64 ((aa .i64 ((aa .i64 (d.2.1+(1:Int)))+(1:Int)))+(1:Int))),v3.2.2.2.2)).length:Nat):Int)then(((((d.2.2.2.set d.2.2.1.toNat (d.2.1,v0.2)).set d.2.2.1.toNat (v1.1,(aa .i64 (d.2.1+(1:Int))),v1.2.2)).set d.2.2.1.toNat (v2.1,v2.2.1,(aa .i64 ((aa .i64 (d.2.1+(1:Int)))+(1:Int))),v2.2.2.2)).set d.2.2.1.toNat (v3.1,v3.2.1,v3.2.2.1,(aa .i64 ((aa .i64 ((aa .i64 (d.2.1+(1:Int)))+(1:Int)))+(1:Int))),v3.2.2.2.2))[d.2.2.1.toNat]?).bind fun v4=>
 (if 0≤d.2.2.1 then(if d.2.2.1<(((((((d.2.2.2.set d.2.2.1.toNat (d.2.1,v0.2)).set d.2.2.1.toNat (v1.1,(aa .i64 (d.2.1+(1:Int))),v1.2.2)).set d.2.2.1.toNat (v2.1,v2.2.1,(aa .i64 ((aa .i64 (d.2.1+(1:Int)))+(1:Int))),v2.2.2.2)).set d.2.2.1.toNat (v3.1,v3.2.1,v3.2.2.1,(aa .i64 ((aa .i64 ((aa .i64 (d.2.1+(1:Int)))+(1:Int)))+(1:Int))),v3.2.2.2.2)).set d.2.2.1.toNat (v4.1,v4.2.1,v4.2.2.1,v4.2.2.2.1,(aa .i64 ((aa .i64 ((aa .i64 ((aa .i64 (d.2.1+(1:Int)))+(1:Int)))+(1:Int)))+(1:Int))),v4.2.2.2.2.2)).length:Nat):Int)then((((((d.2.2.2.set d.2.2.1.toNat (d.2.1,v0.2)).set d.2.2.1.toNat (v1.1,(aa .i64 (d.2.1+(1:Int))),v1.2.2)).set d.2.2.1.toNat (v2.1,v2.2.1,(aa .i64 ((aa .i64 (d.2.1+(1:Int)))+(1:Int))),v2.2.2.2)).set d.2.2.1.toNat (v3.1,v3.2.1,v3.2.2.1,(aa .i64 ((aa .i64 ((aa .i64 (d.2.1+(1:Int)))+(1:Int)))+(1:Int))),v3.2.2.2.2)).set d.2.2.1.toNat (v4.1,v4.2.1,v4.2.2.1,v4.2.2.2.1,(aa .i64 ((aa .i64 ((aa .i64 ((aa .i64 (d.2.1+(1:Int)))+(1:Int)))+(1:Int)))+(1:Int))),v4.2.2.2.2.2))[d.2.2.1.toNat]?).bind fun v5=>
 (if 0≤d.2.2.1 then(if d.2.2.1<((((((((d.2.2.2.set d.2.2.1.toNat (d.2.1,v0.2)).set d.2.2.1.toNat (v1.1,(aa .i64 (d.2.1+(1:Int))),v1.2.2)).set d.2.2.1.toNat (v2.1,v2.2.1,(aa .i64 ((aa .i64 (d.2.1+(1:Int)))+(1:Int))),v2.2.2.2)).set d.2.2.1.toNat (v3.1,v3.2.1,v3.2.2.1,(aa .i64 ((aa .i64 ((aa .i64 (d.2.1+(1:Int)))+(1:Int)))+(1:Int))),v3.2.2.2.2)).set d.2.2.1.toNat (v4.1,v4.2.1,v4.2.2.1,v4.2.2.2.1,(aa .i64 ((aa .i64 ((aa .i64 ((aa .i64 (d.2.1+(1:Int)))+(1:Int)))+(1:Int)))+(1:Int))),v4.2.2.2.2.2)).set d.2.2.1.toNat (v5.1,v5.2.1,v5.2.2.1,v5.2.2.2.1,v5.2.2.2.2.1,(aa .i64 ((aa .i64 ((aa .i64 ((aa .i64 ((aa .i64 (d.2.1+(1:Int)))+(1:Int)))+(1:Int)))+(1:Int)))+(1:Int))),v5.2.2.2.2.2.2)).length:Nat):Int)then(((((((d.2.2.2.set d.2.2.1.toNat (d.2.1,v0.2)).set d.2.2.1.toNat (v1.1,(aa .i64 (d.2.1+(1:Int))),v1.2.2)).set d.2.2.1.toNat (v2.1,v2.2.1,(aa .i64 ((aa .i64 (d.2.1+(1:Int)))+(1:Int))),v2.2.2.2)).set d.2.2.1.toNat (v3.1,v3.2.1,v3.2.2.1,(aa .i64 ((aa .i64 ((aa .i64 (d.2.1+(1:Int)))+(1:Int)))+(1:Int))),v3.2.2.2.2)).set d.2.2.1.toNat (v4.1,v4.2.1,v4.2.2.1,v4.2.2.2.1,(aa .i64 ((aa .i64 ((aa .i64 ((aa .i64 (d.2.1+(1:Int)))+(1:Int)))+(1:Int)))+(1:Int))),v4.2.2.2.2.2)).set d.2.2.1.toNat (v5.1,v5.2.1,v5.2.2.1,v5.2.2.2.1,v5.2.2.2.2.1,(aa .i64 ((aa .i64 ((aa .i64 ((aa .i64 ((aa .i64 (d.2.1+(1:Int)))+(1:Int)))+(1:Int)))+(1:Int)))+(1:Int))),v5.2.2.2.2.2.2))[d.2.2.1.toNat]?).bind fun v6=>
 (if 0≤d.2.2.1 then(if d.2.2.1<(((((((((d.2.2.2.set d.2.2.1.toNat (d.2.1,v0.2)).set d.2.2.1.toNat (v1.1,(aa .i64 (d.2.1+(1:Int))),v1.2.2)).set d.2.2.1.toNat (v2.1,v2.2.1,(aa .i64 ((aa .i64 (d.2.1+(1:Int)))+(1:Int))),v2.2.2.2)).set d.2.2.1.toNat (v3.1,v3.2.1,v3.2.2.1,(aa .i64 ((aa .i64 ((aa .i64 (d.2.1+(1:Int)))+(1:Int)))+(1:Int))),v3.2.2.2.2)).set d.2.2.1.toNat (v4.1,v4.2.1,v4.2.2.1,v4.2.2.2.1,(aa .i64 ((aa .i64 ((aa .i64 ((aa .i64 (d.2.1+(1:Int)))+(1:Int)))+(1:Int)))+(1:Int))),v4.2.2.2.2.2)).set d.2.2.1.toNat (v5.1,v5.2.1,v5.2.2.1,v5.2.2.2.1,v5.2.2.2.2.1,(aa .i64 ((aa .i64 ((aa .i64 ((aa .i64 ((aa .i64 (d.2.1+(1:Int)))+(1:Int)))+(1:Int)))+(1:Int)))+(1:Int))),v5.2.2.2.2.2.2)).set d.2.2.1.toNat (v6.1,v6.2.1,v6.2.2.1,v6.2.2.2.1,v6.2.2.2.2.1,v6.2.2.2.2.2.1,(aa .i64 ((aa .i64 ((aa .i64 ((aa .i64 ((aa .i64 ((aa .i64 (d.2.1+(1:Int)))+(1:Int)))+(1:Int)))+(1:Int)))+(1:Int)))+(1:Int))),v6.2.2.2.2.2.2.2)).length:Nat):Int)then((((((((d.2.2.2.set d.2.2.1.toNat (d.2.1,v0.2)).set d.2.2.1.toNat (v1.1,(aa .i64 (d.2.1+(1:Int))),v1.2.2)).set d.2.2.1.toNat (v2.1,v2.2.1,(aa .i64 ((aa .i64 (d.2.1+(1:Int)))+(1:Int))),v2.2.2.2)).set d.2.2.1.toNat (v3.1,v3.2.1,v3.2.2.1,(aa .i64 ((aa .i64 ((aa .i64 (d.2.1+(1:Int)))+(1:Int)))+(1:Int))),v3.2.2.2.2)).set d.2.2.1.toNat (v4.1,v4.2.1,v4.2.2.1,v4.2.2.2.1,(aa .i64 ((aa .i64 ((aa .i64 ((aa .i64 (d.2.1+(1:Int)))+(1:Int)))+(1:Int)))+(1:Int))),v4.2.2.2.2.2)).set d.2.2.1.toNat (v5.1,v5.2.1,v5.2.2.1,v5.2.2.2.1,v5.2.2.2.2.1,(aa .i64 ((aa .i64 ((aa .i64 ((aa .i64 ((aa .i64 (d.2.1+(1:Int)))+(1:Int)))+(1:Int)))+(1:Int)))+(1:Int))),v5.2.2.2.2.2.2)).set d.2.2.1.toNat (v6.1,v6.2.1,v6.2.2.1,v6.2.2.2.1,v6.2.2.2.2.1,v6.2.2.2.2.2.1,(aa .i64 ((aa .i64 ((aa .i64 ((aa .i64 ((aa .i64 ((aa .i64 (d.2.1+(1:Int)))+(1:Int)))+(1:Int)))+(1:Int)))+(1:Int)))+(1:Int))),v6.2.2.2.2.2.2.2))[d.2.2.1.toNat]?).bind fun v7=>
 ((((((((d.2.2.2.set d.2.2.1.toNat (d.2.1,v0.2)).set d.2.2.1.toNat (v1.1,(aa .i64 (d.2.1+(1:Int))),v1.2.2)).set d.2.2.1.toNat (v2.1,v2.2.1,(aa .i64 ((aa .i64 (d.2.1+(1:Int)))+(1:Int))),v2.2.2.2)).set d.2.2.1.toNat (v3.1,v3.2.1,v3.2.2.1,(aa .i64 ((aa .i64 ((aa .i64 (d.2.1+(1:Int)))+(1:Int)))+(1:Int))),v3.2.2.2.2)).set d.2.2.1.toNat (v4.1,v4.2.1,v4.2.2.1,v4.2.2.2.1,(aa .i64 ((aa .i64 ((aa .i64 ((aa .i64 (d.2.1+(1:Int)))+(1:Int)))+(1:Int)))+(1:Int))),v4.2.2.2.2.2)).set d.2.2.1.toNat (v5.1,v5.2.1,v5.2.2.1,v5.2.2.2.1,v5.2.2.2.2.1,(aa .i64 ((aa .i64 ((aa .i64 ((aa .i64 ((aa .i64 (d.2.1+(1:Int)))+(1:Int)))+(1:Int)))+(1:Int)))+(1:Int))),v5.2.2.2.2.2.2)).set d.2.2.1.toNat (v6.1,v6.2.1,v6.2.2.1,v6.2.2.2.1,v6.2.2.2.2.1,v6.2.2.2.2.2.1,(aa .i64 ((aa .i64 ((aa .i64 ((aa .i64 ((aa .i64 ((aa .i64 (d.2.1+(1:Int)))+(1:Int)))+(1:Int)))+(1:Int)))+(1:Int)))+(1:Int))),v6.2.2.2.2.2.2.2))[d.2.2.1.toNat]?).bind fun v8=>
 (kH k (v8.2.2.2.2.2.2.2.1,(aa .i64 ((aa .i64 ((aa .i64 ((aa .i64 ((aa .i64 ((aa .i64 ((aa .i64 (d.2.1+(1:Int)))+(1:Int)))+(1:Int)))+(1:Int)))+(1:Int)))+(1:Int)))+(1:Int))))).bind fun v9=>
 ((((((((d.2.2.2.set d.2.2.1.toNat (d.2.1,v0.2)).set d.2.2.1.toNat (v1.1,(aa .i64 (d.2.1+(1:Int))),v1.2.2)).set d.2.2.1.toNat (v2.1,v2.2.1,(aa .i64 ((aa .i64 (d.2.1+(1:Int)))+(1:Int))),v2.2.2.2)).set d.2.2.1.toNat (v3.1,v3.2.1,v3.2.2.1,(aa .i64 ((aa .i64 ((aa .i64 (d.2.1+(1:Int)))+(1:Int)))+(1:Int))),v3.2.2.2.2)).set d.2.2.1.toNat (v4.1,v4.2.1,v4.2.2.1,v4.2.2.2.1,(aa .i64 ((aa .i64 ((aa .i64 ((aa .i64 (d.2.1+(1:Int)))+(1:Int)))+(1:Int)))+(1:Int))),v4.2.2.2.2.2)).set d.2.2.1.toNat (v5.1,v5.2.1,v5.2.2.1,v5.2.2.2.1,v5.2.2.2.2.1,(aa .i64 ((aa .i64 ((aa .i64 ((aa .i64 ((aa .i64 (d.2.1+(1:Int)))+(1:Int)))+(1:Int)))+(1:Int)))+(1:Int))),v5.2.2.2.2.2.2)).set d.2.2.1.toNat (v6.1,v6.2.1,v6.2.2.1,v6.2.2.2.1,v6.2.2.2.2.1,v6.2.2.2.2.2.1,(aa .i64 ((aa .i64 ((aa .i64 ((aa .i64 ((aa .i64 ((aa .i64 (d.2.1+(1:Int)))+(1:Int)))+(1:Int)))+(1:Int)))+(1:Int)))+(1:Int))),v6.2.2.2.2.2.2.2))[d.2.2.1.toNat]?).bind fun v10=>
 (if 0≤d.2.2.1 then(if d.2.2.1<((((((((((d.2.2.2.set d.2.2.1.toNat (d.2.1,v0.2)).set d.2.2.1.toNat (v1.1,(aa .i64 (d.2.1+(1:Int))),v1.2.2)).set d.2.2.1.toNat (v2.1,v2.2.1,(aa .i64 ((aa .i64 (d.2.1+(1:Int)))+(1:Int))),v2.2.2.2)).set d.2.2.1.toNat (v3.1,v3.2.1,v3.2.2.1,(aa .i64 ((aa .i64 ((aa .i64 (d.2.1+(1:Int)))+(1:Int)))+(1:Int))),v3.2.2.2.2)).set d.2.2.1.toNat (v4.1,v4.2.1,v4.2.2.1,v4.2.2.2.1,(aa .i64 ((aa .i64 ((aa .i64 ((aa .i64 (d.2.1+(1:Int)))+(1:Int)))+(1:Int)))+(1:Int))),v4.2.2.2.2.2)).set d.2.2.1.toNat (v5.1,v5.2.1,v5.2.2.1,v5.2.2.2.1,v5.2.2.2.2.1,(aa .i64 ((aa .i64 ((aa .i64 ((aa .i64 ((aa .i64 (d.2.1+(1:Int)))+(1:Int)))+(1:Int)))+(1:Int)))+(1:Int))),v5.2.2.2.2.2.2)).set d.2.2.1.toNat (v6.1,v6.2.1,v6.2.2.1,v6.2.2.2.1,v6.2.2.2.2.1,v6.2.2.2.2.2.1,(aa .i64 ((aa .i64 ((aa .i64 ((aa .i64 ((aa .i64 ((aa .i64 (d.2.1+(1:Int)))+(1:Int)))+(1:Int)))+(1:Int)))+(1:Int)))+(1:Int))),v6.2.2.2.2.2.2.2)).set d.2.2.1.toNat (v10.1,v10.2.1,v10.2.2.1,v10.2.2.2.1,v10.2.2.2.2.1,v10.2.2.2.2.2.1,v10.2.2.2.2.2.2.1,v9.2,v10.2.2.2.2.2.2.2.2)).length:Nat):Int)then(((((((((d.2.2.2.set d.2.2.1.toNat (d.2.1,v0.2)).set d.2.2.1.toNat (v1.1,(aa .i64 (d.2.1+(1:Int))),v1.2.2)).set d.2.2.1.toNat (v2.1,v2.2.1,(aa .i64 ((aa .i64 (d.2.1+(1:Int)))+(1:Int))),v2.2.2.2)).set d.2.2.1.toNat (v3.1,v3.2.1,v3.2.2.1,(aa .i64 ((aa .i64 ((aa .i64 (d.2.1+(1:Int)))+(1:Int)))+(1:Int))),v3.2.2.2.2)).set d.2.2.1.toNat (v4.1,v4.2.1,v4.2.2.1,v4.2.2.2.1,(aa .i64 ((aa .i64 ((aa .i64 ((aa .i64 (d.2.1+(1:Int)))+(1:Int)))+(1:Int)))+(1:Int))),v4.2.2.2.2.2)).set d.2.2.1.toNat (v5.1,v5.2.1,v5.2.2.1,v5.2.2.2.1,v5.2.2.2.2.1,(aa .i64 ((aa .i64 ((aa .i64 ((aa .i64 ((aa .i64 (d.2.1+(1:Int)))+(1:Int)))+(1:Int)))+(1:Int)))+(1:Int))),v5.2.2.2.2.2.2)).set d.2.2.1.toNat (v6.1,v6.2.1,v6.2.2.1,v6.2.2.2.1,v6.2.2.2.2.1,v6.2.2.2.2.2.1,(aa .i64 ((aa .i64 ((aa .i64 ((aa .i64 ((aa .i64 ((aa .i64 (d.2.1+(1:Int)))+(1:Int)))+(1:Int)))+(1:Int)))+(1:Int)))+(1:Int))),v6.2.2.2.2.2.2.2)).set d.2.2.1.toNat (v10.1,v10.2.1,v10.2.2.1,v10.2.2.2.1,v10.2.2.2.2.1,v10.2.2.2.2.2.1,v10.2.2.2.2.2.2.1,v9.2,v10.2.2.2.2.2.2.2.2))[d.2.2.1.toNat]?).bind fun v11=>
 (((((((((d.2.2.2.set d.2.2.1.toNat (d.2.1,v0.2)).set d.2.2.1.toNat (v1.1,(aa .i64 (d.2.1+(1:Int))),v1.2.2)).set d.2.2.1.toNat (v2.1,v2.2.1,(aa .i64 ((aa .i64 (d.2.1+(1:Int)))+(1:Int))),v2.2.2.2)).set d.2.2.1.toNat (v3.1,v3.2.1,v3.2.2.1,(aa .i64 ((aa .i64 ((aa .i64 (d.2.1+(1:Int)))+(1:Int)))+(1:Int))),v3.2.2.2.2)).set d.2.2.1.toNat (v4.1,v4.2.1,v4.2.2.1,v4.2.2.2.1,(aa .i64 ((aa .i64 ((aa .i64 ((aa .i64 (d.2.1+(1:Int)))+(1:Int)))+(1:Int)))+(1:Int))),v4.2.2.2.2.2)).set d.2.2.1.toNat (v5.1,v5.2.1,v5.2.2.1,v5.2.2.2.1,v5.2.2.2.2.1,(aa .i64 ((aa .i64 ((aa .i64 ((aa .i64 ((aa .i64 (d.2.1+(1:Int)))+(1:Int)))+(1:Int)))+(1:Int)))+(1:Int))),v5.2.2.2.2.2.2)).set d.2.2.1.toNat (v6.1,v6.2.1,v6.2.2.1,v6.2.2.2.1,v6.2.2.2.2.1,v6.2.2.2.2.2.1,(aa .i64 ((aa .i64 ((aa .i64 ((aa .i64 ((aa .i64 ((aa .i64 (d.2.1+(1:Int)))+(1:Int)))+(1:Int)))+(1:Int)))+(1:Int)))+(1:Int))),v6.2.2.2.2.2.2.2)).set d.2.2.1.toNat (v10.1,v10.2.1,v10.2.2.1,v10.2.2.2.1,v10.2.2.2.2.1,v10.2.2.2.2.2.1,v10.2.2.2.2.2.2.1,v9.2,v10.2.2.2.2.2.2.2.2))[d.2.2.1.toNat]?).bind fun v12=>
 (fj k (v12.2.2.2.2.2.2.2.2.1,v9.1)).bind fun v13=>
 (((((((((d.2.2.2.set d.2.2.1.toNat (d.2.1,v0.2)).set d.2.2.1.toNat (v1.1,(aa .i64 (d.2.1+(1:Int))),v1.2.2)).set d.2.2.1.toNat (v2.1,v2.2.1,(aa .i64 ((aa .i64 (d.2.1+(1:Int)))+(1:Int))),v2.2.2.2)).set d.2.2.1.toNat (v3.1,v3.2.1,v3.2.2.1,(aa .i64 ((aa .i64 ((aa .i64 (d.2.1+(1:Int)))+(1:Int)))+(1:Int))),v3.2.2.2.2)).set d.2.2.1.toNat (v4.1,v4.2.1,v4.2.2.1,v4.2.2.2.1,(aa .i64 ((aa .i64 ((aa .i64 ((aa .i64 (d.2.1+(1:Int)))+(1:Int)))+(1:Int)))+(1:Int))),v4.2.2.2.2.2)).set d.2.2.1.toNat (v5.1,v5.2.1,v5.2.2.1,v5.2.2.2.1,v5.2.2.2.2.1,(aa .i64 ((aa .i64 ((aa .i64 ((aa .i64 ((aa .i64 (d.2.1+(1:Int)))+(1:Int)))+(1:Int)))+(1:Int)))+(1:Int))),v5.2.2.2.2.2.2)).set d.2.2.1.toNat (v6.1,v6.2.1,v6.2.2.1,v6.2.2.2.1,v6.2.2.2.2.1,v6.2.2.2.2.2.1,(aa .i64 ((aa .i64 ((aa .i64 ((aa .i64 ((aa .i64 ((aa .i64 (d.2.1+(1:Int)))+(1:Int)))+(1:Int)))+(1:Int)))+(1:Int)))+(1:Int))),v6.2.2.2.2.2.2.2)).set d.2.2.1.toNat (v10.1,v10.2.1,v10.2.2.1,v10.2.2.2.1,v10.2.2.2.2.1,v10.2.2.2.2.2.1,v10.2.2.2.2.2.2.1,v9.2,v10.2.2.2.2.2.2.2.2))[d.2.2.1.toNat]?).bind fun v14=>
 (if 0≤d.2.2.1 then(if d.2.2.1<(((((((((((d.2.2.2.set d.2.2.1.toNat (d.2.1,v0.2)).set d.2.2.1.toNat (v1.1,(aa .i64 (d.2.1+(1:Int))),v1.2.2)).set d.2.2.1.toNat (v2.1,v2.2.1,(aa .i64 ((aa .i64 (d.2.1+(1:Int)))+(1:Int))),v2.2.2.2)).set d.2.2.1.toNat (v3.1,v3.2.1,v3.2.2.1,(aa .i64 ((aa .i64 ((aa .i64 (d.2.1+(1:Int)))+(1:Int)))+(1:Int))),v3.2.2.2.2)).set d.2.2.1.toNat (v4.1,v4.2.1,v4.2.2.1,v4.2.2.2.1,(aa .i64 ((aa .i64 ((aa .i64 ((aa .i64 (d.2.1+(1:Int)))+(1:Int)))+(1:Int)))+(1:Int))),v4.2.2.2.2.2)).set d.2.2.1.toNat (v5.1,v5.2.1,v5.2.2.1,v5.2.2.2.1,v5.2.2.2.2.1,(aa .i64 ((aa .i64 ((aa .i64 ((aa .i64 ((aa .i64 (d.2.1+(1:Int)))+(1:Int)))+(1:Int)))+(1:Int)))+(1:Int))),v5.2.2.2.2.2.2)).set d.2.2.1.toNat (v6.1,v6.2.1,v6.2.2.1,v6.2.2.2.1,v6.2.2.2.2.1,v6.2.2.2.2.2.1,(aa .i64 ((aa .i64 ((aa .i64 ((aa .i64 ((aa .i64 ((aa .i64 (d.2.1+(1:Int)))+(1:Int)))+(1:Int)))+(1:Int)))+(1:Int)))+(1:Int))),v6.2.2.2.2.2.2.2)).set d.2.2.1.toNat (v10.1,v10.2.1,v10.2.2.1,v10.2.2.2.1,v10.2.2.2.2.1,v10.2.2.2.2.2.1,v10.2.2.2.2.2.2.1,v9.2,v10.2.2.2.2.2.2.2.2)).set d.2.2.1.toNat (v14.1,v14.2.1,v14.2.2.1,v14.2.2.2.1,v14.2.2.2.2.1,v14.2.2.2.2.2.1,v14.2.2.2.2.2.2.1,v14.2.2.2.2.2.2.2.1,v13.2,v14.2.2.2.2.2.2.2.2.2)).length:Nat):Int)then((((((((((d.2.2.2.set d.2.2.1.toNat (d.2.1,v0.2)).set d.2.2.1.toNat (v1.1,(aa .i64 (d.2.1+(1:Int))),v1.2.2)).set d.2.2.1.toNat (v2.1,v2.2.1,(aa .i64 ((aa .i64 (d.2.1+(1:Int)))+(1:Int))),v2.2.2.2)).set d.2.2.1.toNat (v3.1,v3.2.1,v3.2.2.1,(aa .i64 ((aa .i64 ((aa .i64 (d.2.1+(1:Int)))+(1:Int)))+(1:Int))),v3.2.2.2.2)).set d.2.2.1.toNat (v4.1,v4.2.1,v4.2.2.1,v4.2.2.2.1,(aa .i64 ((aa .i64 ((aa .i64 ((aa .i64 (d.2.1+(1:Int)))+(1:Int)))+(1:Int)))+(1:Int))),v4.2.2.2.2.2)).set d.2.2.1.toNat (v5.1,v5.2.1,v5.2.2.1,v5.2.2.2.1,v5.2.2.2.2.1,(aa .i64 ((aa .i64 ((aa .i64 ((aa .i64 ((aa .i64 (d.2.1+(1:Int)))+(1:Int)))+(1:Int)))+(1:Int)))+(1:Int))),v5.2.2.2.2.2.2)).set d.2.2.1.toNat (v6.1,v6.2.1,v6.2.2.1,v6.2.2.2.1,v6.2.2.2.2.1,v6.2.2.2.2.2.1,(aa .i64 ((aa .i64 ((aa .i64 ((aa .i64 ((aa .i64 ((aa .i64 (d.2.1+(1:Int)))+(1:Int)))+(1:Int)))+(1:Int)))+(1:Int)))+(1:Int))),v6.2.2.2.2.2.2.2)).set d.2.2.1.toNat (v10.1,v10.2.1,v10.2.2.1,v10.2.2.2.1,v10.2.2.2.2.1,v10.2.2.2.2.2.1,v10.2.2.2.2.2.2.1,v9.2,v10.2.2.2.2.2.2.2.2)).set d.2.2.1.toNat (v14.1,v14.2.1,v14.2.2.1,v14.2.2.2.1,v14.2.2.2.2.1,v14.2.2.2.2.2.1,v14.2.2.2.2.2.2.1,v14.2.2.2.2.2.2.2.1,v13.2,v14.2.2.2.2.2.2.2.2.2))[d.2.2.1.toNat]?).bind fun v15=>
 ((((((((((d.2.2.2.set d.2.2.1.toNat (d.2.1,v0.2)).set d.2.2.1.toNat (v1.1,(aa .i64 (d.2.1+(1:Int))),v1.2.2)).set d.2.2.1.toNat (v2.1,v2.2.1,(aa .i64 ((aa .i64 (d.2.1+(1:Int)))+(1:Int))),v2.2.2.2)).set d.2.2.1.toNat (v3.1,v3.2.1,v3.2.2.1,(aa .i64 ((aa .i64 ((aa .i64 (d.2.1+(1:Int)))+(1:Int)))+(1:Int))),v3.2.2.2.2)).set d.2.2.1.toNat (v4.1,v4.2.1,v4.2.2.1,v4.2.2.2.1,(aa .i64 ((aa .i64 ((aa .i64 ((aa .i64 (d.2.1+(1:Int)))+(1:Int)))+(1:Int)))+(1:Int))),v4.2.2.2.2.2)).set d.2.2.1.toNat (v5.1,v5.2.1,v5.2.2.1,v5.2.2.2.1,v5.2.2.2.2.1,(aa .i64 ((aa .i64 ((aa .i64 ((aa .i64 ((aa .i64 (d.2.1+(1:Int)))+(1:Int)))+(1:Int)))+(1:Int)))+(1:Int))),v5.2.2.2.2.2.2)).set d.2.2.1.toNat (v6.1,v6.2.1,v6.2.2.1,v6.2.2.2.1,v6.2.2.2.2.1,v6.2.2.2.2.2.1,(aa .i64 ((aa .i64 ((aa .i64 ((aa .i64 ((aa .i64 ((aa .i64 (d.2.1+(1:Int)))+(1:Int)))+(1:Int)))+(1:Int)))+(1:Int)))+(1:Int))),v6.2.2.2.2.2.2.2)).set d.2.2.1.toNat (v10.1,v10.2.1,v10.2.2.1,v10.2.2.2.1,v10.2.2.2.2.1,v10.2.2.2.2.2.1,v10.2.2.2.2.2.2.1,v9.2,v10.2.2.2.2.2.2.2.2)).set d.2.2.1.toNat (v14.1,v14.2.1,v14.2.2.1,v14.2.2.2.1,v14.2.2.2.2.1,v14.2.2.2.2.2.1,v14.2.2.2.2.2.2.1,v14.2.2.2.2.2.2.2.1,v13.2,v14.2.2.2.2.2.2.2.2.2))[d.2.2.1.toNat]?).bind fun v16=>
 (fj k (v16.2.2.2.2.2.2.2.2.2,v13.1)).bind fun v17=>
 ((((((((((d.2.2.2.set d.2.2.1.toNat (d.2.1,v0.2)).set d.2.2.1.toNat (v1.1,(aa .i64 (d.2.1+(1:Int))),v1.2.2)).set d.2.2.1.toNat (v2.1,v2.2.1,(aa .i64 ((aa .i64 (d.2.1+(1:Int)))+(1:Int))),v2.2.2.2)).set d.2.2.1.toNat (v3.1,v3.2.1,v3.2.2.1,(aa .i64 ((aa .i64 ((aa .i64 (d.2.1+(1:Int)))+(1:Int)))+(1:Int))),v3.2.2.2.2)).set d.2.2.1.toNat (v4.1,v4.2.1,v4.2.2.1,v4.2.2.2.1,(aa .i64 ((aa .i64 ((aa .i64 ((aa .i64 (d.2.1+(1:Int)))+(1:Int)))+(1:Int)))+(1:Int))),v4.2.2.2.2.2)).set d.2.2.1.toNat (v5.1,v5.2.1,v5.2.2.1,v5.2.2.2.1,v5.2.2.2.2.1,(aa .i64 ((aa .i64 ((aa .i64 ((aa .i64 ((aa .i64 (d.2.1+(1:Int)))+(1:Int)))+(1:Int)))+(1:Int)))+(1:Int))),v5.2.2.2.2.2.2)).set d.2.2.1.toNat (v6.1,v6.2.1,v6.2.2.1,v6.2.2.2.1,v6.2.2.2.2.1,v6.2.2.2.2.2.1,(aa .i64 ((aa .i64 ((aa .i64 ((aa .i64 ((aa .i64 ((aa .i64 (d.2.1+(1:Int)))+(1:Int)))+(1:Int)))+(1:Int)))+(1:Int)))+(1:Int))),v6.2.2.2.2.2.2.2)).set d.2.2.1.toNat (v10.1,v10.2.1,v10.2.2.1,v10.2.2.2.1,v10.2.2.2.2.1,v10.2.2.2.2.2.1,v10.2.2.2.2.2.2.1,v9.2,v10.2.2.2.2.2.2.2.2)).set d.2.2.1.toNat (v14.1,v14.2.1,v14.2.2.1,v14.2.2.2.1,v14.2.2.2.2.1,v14.2.2.2.2.2.1,v14.2.2.2.2.2.2.1,v14.2.2.2.2.2.2.2.1,v13.2,v14.2.2.2.2.2.2.2.2.2))[d.2.2.1.toNat]?).bind fun v18=>
 self ((),v17.1,(aa .i64 (d.2.2.1+(1:Int))),((((((((((d.2.2.2.set d.2.2.1.toNat (d.2.1,v0.2)).set d.2.2.1.toNat (v1.1,(aa .i64 (d.2.1+(1:Int))),v1.2.2)).set d.2.2.1.toNat (v2.1,v2.2.1,(aa .i64 ((aa .i64 (d.2.1+(1:Int)))+(1:Int))),v2.2.2.2)).set d.2.2.1.toNat (v3.1,v3.2.1,v3.2.2.1,(aa .i64 ((aa .i64 ((aa .i64 (d.2.1+(1:Int)))+(1:Int)))+(1:Int))),v3.2.2.2.2)).set d.2.2.1.toNat (v4.1,v4.2.1,v4.2.2.1,v4.2.2.2.1,(aa .i64 ((aa .i64 ((aa .i64 ((aa .i64 (d.2.1+(1:Int)))+(1:Int)))+(1:Int)))+(1:Int))),v4.2.2.2.2.2)).set d.2.2.1.toNat (v5.1,v5.2.1,v5.2.2.1,v5.2.2.2.1,v5.2.2.2.2.1,(aa .i64 ((aa .i64 ((aa .i64 ((aa .i64 ((aa .i64 (d.2.1+(1:Int)))+(1:Int)))+(1:Int)))+(1:Int)))+(1:Int))),v5.2.2.2.2.2.2)).set d.2.2.1.toNat (v6.1,v6.2.1,v6.2.2.1,v6.2.2.2.1,v6.2.2.2.2.1,v6.2.2.2.2.2.1,(aa .i64 ((aa .i64 ((aa .i64 ((aa .i64 ((aa .i64 ((aa .i64 (d.2.1+(1:Int)))+(1:Int)))+(1:Int)))+(1:Int)))+(1:Int)))+(1:Int))),v6.2.2.2.2.2.2.2)).set d.2.2.1.toNat (v10.1,v10.2.1,v10.2.2.1,v10.2.2.2.1,v10.2.2.2.2.1,v10.2.2.2.2.2.1,v10.2.2.2.2.2.2.1,v9.2,v10.2.2.2.2.2.2.2.2)).set d.2.2.1.toNat (v14.1,v14.2.1,v14.2.2.1,v14.2.2.2.1,v14.2.2.2.2.1,v14.2.2.2.2.2.1,v14.2.2.2.2.2.2.1,v14.2.2.2.2.2.2.2.1,v13.2,v14.2.2.2.2.2.2.2.2.2)).set d.2.2.1.toNat (v18.1,v18.2.1,v18.2.2.1,v18.2.2.2.1,v18.2.2.2.2.1,v18.2.2.2.2.2.1,v18.2.2.2.2.2.2.1,v18.2.2.2.2.2.2.2.1,v18.2.2.2.2.2.2.2.2.1,v17.2)))else none)else none)else none)else none)else none)else none)else none)else none)else none)else none)else none)else none)else none)else none)else none)else none)else none)else none)else none)else none)else some (d.2.1,d.2.2.2))
def wX(k:Nat)(x0:(List ax))(x1:Int):Option (Int×(List ax)):=
 iter k (gx k) ((),x1,(0:Int),x0)
theorem Au(k:Nat)(x0:(List ax))(x1:Int):mF (k+1) (x0,x1)=wX k x0 x1:=by kernel_rfl
def jJ(k:Nat)(self:_→Option ByteArray)(d:ar):=
 (bif (decide ((0:Int)<d.1))then(if((10:Int):Int)≠0 then(if(ofBytes ([(aa .u8 (aa .i64 ((48:Int)+(d.1.tmod (10:Int)))))]:List Int)).size+d.2.size≤9223372036854775807 then(if((10:Int):Int)≠0 then self ((aa .i64 (d.1.tdiv (10:Int))),((ofBytes ([(aa .u8 (aa .i64 ((48:Int)+(d.1.tmod (10:Int)))))]:List Int))++d.2))else none)else none)else none)else(if(⟨#[109]⟩:ByteArray).size+d.2.size≤9223372036854775807 then some ((⟨#[109]⟩:ByteArray)++d.2)else none))
def tz(k:Nat)(x0:Int):Option ByteArray:=
 (bif (decide (x0≤(0:Int)))then some (⟨#[109,48]⟩:ByteArray)else iter k (jJ k) (x0,(⟨#[]⟩:ByteArray)))
theorem sr(k:Nat)(x0:Int):dn (k+1) (x0)=tz k x0:=by kernel_rfl
def fL(k:Nat)(self:_→Option (Int×(List ByteArray)))(d:(Unit×(Int×(Int×(List ByteArray))))):=
 (bif (decide (d.2.2.1<(d.2.2.2.length:Int)))then(dn k d.2.1).bind fun v0=>
 (if 0≤d.2.2.1 then(if d.2.2.1<(d.2.2.2.length:Int)then(d.2.2.2[d.2.2.1.toNat]?).bind fun v1=>
 self ((),(aa .i64 (d.2.1+(1:Int))),(aa .i64 (d.2.2.1+(1:Int))),(d.2.2.2.set d.2.2.1.toNat v0))else none)else none)else some (d.2.1,d.2.2.2))
def uf(k:Nat)(x0:(List ByteArray))(x1:Int):Option (Int×(List ByteArray)):=
 iter k (fL k) ((),x1,(0:Int),x0)
theorem zc(k:Nat)(x0:(List ByteArray))(x1:Int):gN (k+1) (x0,x1)=uf k x0 x1:=by kernel_rfl
def G4(k:Nat)(x0:cQ)(x1:Int):Option Int:=
 (mL k (x0.2.1,x1)).bind fun y1=>
 (mF k (x0.2.2.1,y1.1)).bind fun y2=>
 (gN k (x0.2.2.2,y2.1)).bind fun y3=>
 some y3.1
theorem Ig(k:Nat)(x0:cQ)(x1:Int):nZ (k+1) (x0,x1)=G4 k x0 x1:=by kernel_rfl
def gD(k:Nat)(self:_→Option (Int×(List ar)))(d:(Unit×(Int×(Int×(List ar))))):=
 (bif (decide (d.2.2.1<(d.2.2.2.length:Int)))then(if 0≤d.2.2.1 then(if d.2.2.1<(d.2.2.2.length:Int)then(d.2.2.2[d.2.2.1.toNat]?).bind fun v0=>
 (dn k (aa .i64 (d.2.1+(1:Int)))).bind fun v1=>
 (if 0≤d.2.2.1 then(if d.2.2.1<(((d.2.2.2.set d.2.2.1.toNat (d.2.1,v0.2)).length:Nat):Int)then((d.2.2.2.set d.2.2.1.toNat (d.2.1,v0.2))[d.2.2.1.toNat]?).bind fun v2=>
 self ((),(aa .i64 ((aa .i64 (d.2.1+(1:Int)))+(1:Int))),(aa .i64 (d.2.2.1+(1:Int))),((d.2.2.2.set d.2.2.1.toNat (d.2.1,v0.2)).set d.2.2.1.toNat (v2.1,v1)))else none)else none)else none)else none)else some (d.2.1,d.2.2.2))
def wO(k:Nat)(x0:(List ar))(x1:Int):Option (Int×(List ar)):=
 iter k (gD k) ((),x1,(0:Int),x0)
theorem AE(k:Nat)(x0:(List ar))(x1:Int):mJ (k+1) (x0,x1)=wO k x0 x1:=by kernel_rfl
def Bu(k:Nat)(x0:bF)(x1:Int):Option Int:=
 (gN k (x0.1,x1)).bind fun y1=>
 (mJ k (x0.2,y1.1)).bind fun y2=>
 some y2.1
theorem Dd(k:Nat)(x0:bF)(x1:Int):o9 (k+1) (x0,x1)=Bu k x0 x1:=by kernel_rfl
def iC(k:Nat)(self:_→Option (Int×(List av)))(d:(Unit×(Int×(Int×(List av))))):=
 (bif (decide (d.2.2.1<(d.2.2.2.length:Int)))then(if 0≤d.2.2.1 then(if d.2.2.1<(d.2.2.2.length:Int)then(d.2.2.2[d.2.2.1.toNat]?).bind fun v0=>
 (if 0≤d.2.2.1 then(if d.2.2.1<(((d.2.2.2.set d.2.2.1.toNat (d.2.1,v0.2)).length:Nat):Int)then((d.2.2.2.set d.2.2.1.toNat (d.2.1,v0.2))[d.2.2.1.toNat]?).bind fun v1=>
 (if 0≤d.2.2.1 then(if d.2.2.1<((((d.2.2.2.set d.2.2.1.toNat (d.2.1,v0.2)).set d.2.2.1.toNat (v1.1,(aa .i64 (d.2.1+(1:Int))),v1.2.2)).length:Nat):Int)then(((d.2.2.2.set d.2.2.1.toNat (d.2.1,v0.2)).set d.2.2.1.toNat (v1.1,(aa .i64 (d.2.1+(1:Int))),v1.2.2))[d.2.2.1.toNat]?).bind fun v2=>
 self ((),(aa .i64 ((aa .i64 ((aa .i64 (d.2.1+(1:Int)))+(1:Int)))+(1:Int))),(aa .i64 (d.2.2.1+(1:Int))),(((d.2.2.2.set d.2.2.1.toNat (d.2.1,v0.2)).set d.2.2.1.toNat (v1.1,(aa .i64 (d.2.1+(1:Int))),v1.2.2)).set d.2.2.1.toNat (v2.1,v2.2.1,(aa .i64 ((aa .i64 (d.2.1+(1:Int)))+(1:Int))))))else none)else none)else none)else none)else none)else none)else some (d.2.1,d.2.2.2))
def yp(k:Nat)(x0:(List av))(x1:Int):Option (Int×(List av)):=
 iter k (iC k) ((),x1,(0:Int),x0)
theorem Cx(k:Nat)(x0:(List av))(x1:Int):nc (k+1) (x0,x1)=yp k x0 x1:=by kernel_rfl
def iG(k:Nat)(self:_→Option (Int×(List bL)))(d:(Unit×(Int×(Int×(List bL))))):=
 (bif (decide (d.2.2.1<(d.2.2.2.length:Int)))then(if 0≤d.2.2.1 then(if d.2.2.1<(d.2.2.2.length:Int)then(d.2.2.2[d.2.2.1.toNat]?).bind fun v0=>
 (if 0≤d.2.2.1 then(if d.2.2.1<(((d.2.2.2.set d.2.2.1.toNat ((d.2.1,v0.1.2),v0.2)).length:Nat):Int)then((d.2.2.2.set d.2.2.1.toNat ((d.2.1,v0.1.2),v0.2))[d.2.2.1.toNat]?).bind fun v1=>
 (if 0≤d.2.2.1 then(if d.2.2.1<((((d.2.2.2.set d.2.2.1.toNat ((d.2.1,v0.1.2),v0.2)).set d.2.2.1.toNat ((v1.1.1,(aa .i64 (d.2.1+(1:Int))),v1.1.2.2),v1.2)).length:Nat):Int)then(((d.2.2.2.set d.2.2.1.toNat ((d.2.1,v0.1.2),v0.2)).set d.2.2.1.toNat ((v1.1.1,(aa .i64 (d.2.1+(1:Int))),v1.1.2.2),v1.2))[d.2.2.1.toNat]?).bind fun v2=>
 (((d.2.2.2.set d.2.2.1.toNat ((d.2.1,v0.1.2),v0.2)).set d.2.2.1.toNat ((v1.1.1,(aa .i64 (d.2.1+(1:Int))),v1.1.2.2),v1.2))[d.2.2.1.toNat]?).bind fun v3=>
 (kH k (v3.1.2.2,(aa .i64 ((aa .i64 (d.2.1+(1:Int)))+(1:Int))))).bind fun v4=>
 (((d.2.2.2.set d.2.2.1.toNat ((d.2.1,v0.1.2),v0.2)).set d.2.2.1.toNat ((v1.1.1,(aa .i64 (d.2.1+(1:Int))),v1.1.2.2),v1.2))[d.2.2.1.toNat]?).bind fun v5=>
 (if 0≤d.2.2.1 then(if d.2.2.1<(((((d.2.2.2.set d.2.2.1.toNat ((d.2.1,v0.1.2),v0.2)).set d.2.2.1.toNat ((v1.1.1,(aa .i64 (d.2.1+(1:Int))),v1.1.2.2),v1.2)).set d.2.2.1.toNat ((v5.1.1,v5.1.2.1,v4.2),v5.2)).length:Nat):Int)then((((d.2.2.2.set d.2.2.1.toNat ((d.2.1,v0.1.2),v0.2)).set d.2.2.1.toNat ((v1.1.1,(aa .i64 (d.2.1+(1:Int))),v1.1.2.2),v1.2)).set d.2.2.1.toNat ((v5.1.1,v5.1.2.1,v4.2),v5.2))[d.2.2.1.toNat]?).bind fun v6=>
 ((((d.2.2.2.set d.2.2.1.toNat ((d.2.1,v0.1.2),v0.2)).set d.2.2.1.toNat ((v1.1.1,(aa .i64 (d.2.1+(1:Int))),v1.1.2.2),v1.2)).set d.2.2.1.toNat ((v5.1.1,v5.1.2.1,v4.2),v5.2))[d.2.2.1.toNat]?).bind fun v7=>
 (nc k (v7.2,v4.1)).bind fun v8=>
 ((((d.2.2.2.set d.2.2.1.toNat ((d.2.1,v0.1.2),v0.2)).set d.2.2.1.toNat ((v1.1.1,(aa .i64 (d.2.1+(1:Int))),v1.1.2.2),v1.2)).set d.2.2.1.toNat ((v5.1.1,v5.1.2.1,v4.2),v5.2))[d.2.2.1.toNat]?).bind fun v9=>
 self ((),v8.1,(aa .i64 (d.2.2.1+(1:Int))),((((d.2.2.2.set d.2.2.1.toNat ((d.2.1,v0.1.2),v0.2)).set d.2.2.1.toNat ((v1.1.1,(aa .i64 (d.2.1+(1:Int))),v1.1.2.2),v1.2)).set d.2.2.1.toNat ((v5.1.1,v5.1.2.1,v4.2),v5.2)).set d.2.2.1.toNat (v9.1,v8.2)))else none)else none)else none)else none)else none)else none)else none)else none)else some (d.2.1,d.2.2.2))
def zA(k:Nat)(x0:(List bL))(x1:Int):Option (Int×(List bL)):=
 iter k (iG k) ((),x1,(0:Int),x0)
theorem CU(k:Nat)(x0:(List bL))(x1:Int):nJ (k+1) (x0,x1)=zA k x0 x1:=by kernel_rfl
def vW(k:Nat)(x0:bx)(x1:Int):Option Int:=
 (nZ k (x0.1,x1)).bind fun y1=>
 (nJ k (x0.2,y1)).bind fun y2=>
 some y2.1
theorem Ay(k:Nat)(x0:bx)(x1:Int):sx (k+1) (x0,x1)=vW k x0 x1:=by kernel_rfl
def tU(k:Nat)(x0:aY)(x1:Int):Option Int:=
 (o9 k (x0.1,x1)).bind fun y1=>
 (sx k (x0.2.2,y1)).bind fun y2=>
 some y2
theorem yv(k:Nat)(x0:aY)(x1:Int):lx (k+1) (x0,x1)=tU k x0 x1:=by kernel_rfl
def Dt(k:Nat)(x0:ar)(x1:Int):Option Int:=
 (bif (decide ((aa .i64 (x1-(x0.2.size:Int)))<(0:Int)))then some (-1:Int)else some (aa .i64 (x1-(x0.2.size:Int))))
theorem Gq(k:Nat)(x0:ar)(x1:Int):jn (k+1) (x0,x1)=Dt k x0 x1:=by kernel_rfl
def uP(k:Nat)(self:_→Option Int)(d:((List ar)×az)):=
 (bif (decide (d.2.2<(d.1.length:Int)))then(if 0≤d.2.2 then(d.1[d.2.2.toNat]?).bind fun v0=>
 (jn k (v0,d.2.1)).bind fun v1=>
 (bif (decide (v1<(0:Int)))then some (-1:Int)else self (d.1,v1,(aa .i64 (d.2.2+(1:Int)))))else none)else some d.2.1)
def Bs(k:Nat)(x0:(List ar))(x1:Int):Option Int:=
 (bif (decide ((aa .i64 (x1-(x0.length:Int)))<(0:Int)))then some (-1:Int)else iter k (uP k) (x0,(aa .i64 (x1-(x0.length:Int))),(0:Int)))
theorem Ek(k:Nat)(x0:(List ar))(x1:Int):oS (k+1) (x0,x1)=Bs k x0 x1:=by kernel_rfl
def G7(k:Nat)(x0:bF)(x1:Int):Option Int:=
 (kf k (x0.1,x1)).bind fun y1=>
 (bif (decide (y1<(0:Int)))then some (-1:Int)else(oS k (x0.2,y1)).bind fun y2=>
 (bif (decide (y2<(0:Int)))then some (-1:Int)else some y2))
theorem Ic(k:Nat)(x0:bF)(x1:Int):tH (k+1) (x0,x1)=G7 k x0 x1:=by kernel_rfl
def Hq(k:Nat)(x0:fG)(x1:Int):Option Int:=
 (nO k (x0.2.2,x1)).bind fun y1=>
 (bif (decide (y1<(0:Int)))then some (-1:Int)else some y1)
theorem Iw(k:Nat)(x0:fG)(x1:Int):tg (k+1) (x0,x1)=Hq k x0 x1:=by kernel_rfl
def Er(k:Nat)(x0:(List av))(x1:Int):Option Int:=
 (bif (decide ((aa .i64 (x1-(x0.length:Int)))<(0:Int)))then some (-1:Int)else some (aa .i64 (x1-(x0.length:Int))))
theorem Fb(k:Nat)(x0:(List av))(x1:Int):qm (k+1) (x0,x1)=Er k x0 x1:=by kernel_rfl
def GU(k:Nat)(x0:bL)(x1:Int):Option Int:=
 (tg k (x0.1,x1)).bind fun y1=>
 (bif (decide (y1<(0:Int)))then some (-1:Int)else(qm k (x0.2,y1)).bind fun y2=>
 (bif (decide (y2<(0:Int)))then some (-1:Int)else some y2))
theorem H4(k:Nat)(x0:bL)(x1:Int):kD (k+1) (x0,x1)=GU k x0 x1:=by kernel_rfl
def wa(k:Nat)(self:_→Option Int)(d:((List bL)×az)):=
 (bif (decide (d.2.2<(d.1.length:Int)))then(if 0≤d.2.2 then(d.1[d.2.2.toNat]?).bind fun v0=>
 (kD k (v0,d.2.1)).bind fun v1=>
 (bif (decide (v1<(0:Int)))then some (-1:Int)else self (d.1,v1,(aa .i64 (d.2.2+(1:Int)))))else none)else some d.2.1)
def EG(k:Nat)(x0:(List bL))(x1:Int):Option Int:=
 (bif (decide ((aa .i64 (x1-(x0.length:Int)))<(0:Int)))then some (-1:Int)else iter k (wa k) (x0,(aa .i64 (x1-(x0.length:Int))),(0:Int)))
theorem Fh(k:Nat)(x0:(List bL))(x1:Int):rC (k+1) (x0,x1)=EG k x0 x1:=by kernel_rfl
def A8(k:Nat)(x0:bx)(x1:Int):Option Int:=
 (rV k (x0.1,x1)).bind fun y1=>
 (bif (decide (y1<(0:Int)))then some (-1:Int)else(rC k (x0.2,y1)).bind fun y2=>
 (bif (decide (y2<(0:Int)))then some (-1:Int)else some y2))
theorem D8(k:Nat)(x0:bx)(x1:Int):o4 (k+1) (x0,x1)=A8 k x0 x1:=by kernel_rfl
def yw(k:Nat)(x0:aY)(x1:Int):Option Int:=
 (tH k (x0.1,x1)).bind fun y1=>
 (bif (decide (y1<(0:Int)))then some (-1:Int)else(o4 k (x0.2.2,y1)).bind fun y2=>
 (bif (decide (y2<(0:Int)))then some (-1:Int)else some y2))
theorem CX(k:Nat)(x0:aY)(x1:Int):ny (k+1) (x0,x1)=yw k x0 x1:=by kernel_rfl
def E5(k:Nat)(x0:ar):Option ar:=
 some (x0.1,x0.2)
theorem FC(k:Nat)(x0:ar):mz (k+1) (x0)=E5 k x0:=by kernel_rfl
def tO(k:Nat)(self:_→Option (List ar))(d:((List ar)×((List ar)×Int))):=
 (bif (decide (d.2.2<(d.1.length:Int)))then(if 0≤d.2.2 then(d.1[d.2.2.toNat]?).bind fun v0=>
 (mz k v0).bind fun v1=>
 (if 0≤d.2.2 then(if d.2.2<(d.2.1.length:Int)then(d.2.1[d.2.2.toNat]?).bind fun v2=>
 self (d.1,(d.2.1.set d.2.2.toNat v1),(aa .i64 (d.2.2+(1:Int))))else none)else none)else none)else some d.2.1)
def Bv(k:Nat)(x0:(List ar)):Option (List ar):=
 (if 0≤(x0.length:Int)then(if(x0.length:Int)≤(x0.length:Int)then(if(x0.length:Int)*24≤(af:Int)then iter k (tO k) (x0,(List.replicate (x0.length:Int).toNat ((0:Int),ByteArray.empty)),(0:Int))else none)else none)else none)
theorem DM(k:Nat)(x0:(List ar)):o6 (k+1) (x0)=Bv k x0:=by kernel_rfl
def Hu(k:Nat)(x0:bF):Option bF:=
 (jG k x0.1).bind fun y1=>
 (o6 k x0.2).bind fun y2=>
 some (y1,y2)
theorem HV(k:Nat)(x0:bF):sY (k+1) (x0)=Hu k x0:=by kernel_rfl
def Ha(k:Nat)(x0:fG):Option fG:=
 (oh k x0.2.2).bind fun y1=>
 some (x0.1,x0.2.1,y1)
theorem HZ(k:Nat)(x0:fG):tf (k+1) (x0)=Ha k x0:=by kernel_rfl
def GO(k:Nat)(x0:av):Option av:=
 some (x0.1,x0.2.1,x0.2.2)
theorem H9(k:Nat)(x0:av):nR (k+1) (x0)=GO k x0:=by kernel_rfl
def wD(k:Nat)(self:_→Option (List av))(d:((List av)×((List av)×Int))):=
 (bif (decide (d.2.2<(d.1.length:Int)))then(if 0≤d.2.2 then(d.1[d.2.2.toNat]?).bind fun v0=>
 (nR k v0).bind fun v1=>
 (if 0≤d.2.2 then(if d.2.2<(d.2.1.length:Int)then(d.2.1[d.2.2.toNat]?).bind fun v2=>
 self (d.1,(d.2.1.set d.2.2.toNat v1),(aa .i64 (d.2.2+(1:Int))))else none)else none)else none)else some d.2.1)
def DQ(k:Nat)(x0:(List av)):Option (List av):=
 (if 0≤(x0.length:Int)then(if(x0.length:Int)≤(x0.length:Int)then(if(x0.length:Int)*24≤(af:Int)then iter k (wD k) (x0,(List.replicate (x0.length:Int).toNat ((0:Int),(0:Int),(0:Int))),(0:Int))else none)else none)else none)
theorem FO(k:Nat)(x0:(List av)):rl (k+1) (x0)=DQ k x0:=by kernel_rfl
def GH(k:Nat)(x0:bL):Option bL:=
 (tf k x0.1).bind fun y1=>
 (rl k x0.2).bind fun y2=>
 some (y1,y2)
theorem HT(k:Nat)(x0:bL):nV (k+1) (x0)=GH k x0:=by kernel_rfl
def xj(k:Nat)(self:_→Option (List bL))(d:((List bL)×((List bL)×Int))):=
 (bif (decide (d.2.2<(d.1.length:Int)))then(if 0≤d.2.2 then(d.1[d.2.2.toNat]?).bind fun v0=>
 (nV k v0).bind fun v1=>
 (if 0≤d.2.2 then(if d.2.2<(d.2.1.length:Int)then(d.2.1[d.2.2.toNat]?).bind fun v2=>
 self (d.1,(d.2.1.set d.2.2.toNat v1),(aa .i64 (d.2.2+(1:Int))))else none)else none)else none)else some d.2.1)
def Dz(k:Nat)(x0:(List bL)):Option (List bL):=
 (if 0≤(x0.length:Int)then(if(x0.length:Int)≤(x0.length:Int)then(if(x0.length:Int)*64≤(af:Int)then iter k (xj k) (x0,(List.replicate (x0.length:Int).toNat (((0:Int),(0:Int),([]:List Int)),([]:List av))),(0:Int))else none)else none)else none)
theorem Gr(k:Nat)(x0:(List bL)):rq (k+1) (x0)=Dz k x0:=by kernel_rfl
def BW(k:Nat)(x0:bx):Option bx:=
 (iZ k x0.1).bind fun y1=>
 (rq k x0.2).bind fun y2=>
 some (y1,y2)
theorem DT(k:Nat)(x0:bx):pk (k+1) (x0)=BW k x0:=by kernel_rfl
def yP(k:Nat)(x0:aY):Option aY:=
 (sY k x0.1).bind fun y1=>
 (pk k x0.2.2).bind fun y2=>
 some (y1,x0.2.1,y2)
theorem Ct(k:Nat)(x0:aY):eI (k+1) (x0)=yP k x0:=by kernel_rfl
def CT(k:Nat)(x0:Int)(x1:Int)(x2:Int):Option Bool:=
 (bif (decide (x1≤x0))then some (decide (x0≤x2))else some false)
theorem yB(k:Nat)(x0:Int)(x1:Int)(x2:Int):aE (k+1) (x0,x1,x2)=CT k x0 x1 x2:=by kernel_rfl
def my(k:Nat)(self:_→Option Bool)(d:(Int×((List Int)×az))):=
 (bif (decide (d.2.2.2<d.2.2.1))then(if 0≤d.2.2.2 then(d.2.1[d.2.2.2.toNat]?).bind fun v0=>
 (bif (v0==d.1)then some true else self (d.1,d.2.1,d.2.2.1,(aa .i64 (d.2.2.2+(1:Int)))))else none)else some false)
def G5(k:Nat)(x0:(List Int))(x1:Int):Option Bool:=
 iter k (my k) (x1,x0,(x0.length:Int),(0:Int))
theorem H7(k:Nat)(x0:(List Int))(x1:Int):ob (k+1) (x0,x1)=G5 k x0 x1:=by kernel_rfl
def kF(k:Nat)(self:_→Option Bool)(d:((List Int)×((List Int)×az))):=
 (bif (decide (d.2.2.2<d.2.2.1))then(if 0≤d.2.2.2 then(d.2.1[d.2.2.2.toNat]?).bind fun v0=>
 (if 0≤d.2.2.2 then(d.1[d.2.2.2.toNat]?).bind fun v1=>
 (bif (v0 != v1)then some false else self (d.1,d.2.1,d.2.2.1,(aa .i64 (d.2.2.2+(1:Int)))))else none)else none)else some true)
def DI(k:Nat)(x0:(List Int))(x1:(List Int)):Option Bool:=
 (bif ((x0.length:Int) != (x1.length:Int))then some false else iter k (kF k) (x1,x0,(x0.length:Int),(0:Int)))
theorem Fz(k:Nat)(x0:(List Int))(x1:(List Int)):ri (k+1) (x0,x1)=DI k x0 x1:=by kernel_rfl
def kN(k:Nat)(self:_→Option Bool)(d:((List av)×((List av)×az))):=
 (bif (decide (d.2.2.2<d.2.2.1))then(if 0≤d.2.2.2 then(d.2.1[d.2.2.2.toNat]?).bind fun v0=>
 (if 0≤d.2.2.2 then(d.1[d.2.2.2.toNat]?).bind fun v1=>
 (bif (!((v0.1==v1.1)&&((v0.2.1==v1.2.1)&&(v0.2.2==v1.2.2))))then some false else self (d.1,d.2.1,d.2.2.1,(aa .i64 (d.2.2.2+(1:Int)))))else none)else none)else some true)
def EL(k:Nat)(x0:(List av))(x1:(List av)):Option Bool:=
 (bif ((x0.length:Int) != (x1.length:Int))then some false else iter k (kN k) (x1,x0,(x0.length:Int),(0:Int)))
theorem F8(k:Nat)(x0:(List av))(x1:(List av)):mW (k+1) (x0,x1)=EL k x0 x1:=by kernel_rfl
def zr(k:Nat)(x0:ax)(x1:ax):Option Bool:=
 (bif (x0.1 != x1.1)then some false else(bif (x0.2.1 != x1.2.1)then some false else(bif (x0.2.2.1 != x1.2.2.1)then some false else(bif (x0.2.2.2.1 != x1.2.2.2.1)then some false else(bif (x0.2.2.2.2.1 != x1.2.2.2.2.1)then some false else(bif (x0.2.2.2.2.2.1 != x1.2.2.2.2.2.1)then some false else(bif (x0.2.2.2.2.2.2.1 != x1.2.2.2.2.2.2.1)then some false else(ri k (x0.2.2.2.2.2.2.2.1,x1.2.2.2.2.2.2.2.1)).bind fun y1=>
 (bif y1 then(mW k (x0.2.2.2.2.2.2.2.2.1,x1.2.2.2.2.2.2.2.2.1)).bind fun y2=>
 (bif y2 then(mW k (x0.2.2.2.2.2.2.2.2.2,x1.2.2.2.2.2.2.2.2.2)).bind fun y3=>
 some y3 else some false)else some false))))))))
theorem Ck(k:Nat)(x0:ax)(x1:ax):jx (k+1) (x0,x1)=zr k x0 x1:=by kernel_rfl
def En(k:Nat)(x0:Int):Option Bool:=
 (aE k (x0,(0:Int),(3:Int))).bind fun y1=>
 some y1
theorem Gz(k:Nat)(x0:Int):cu (k+1) (x0)=En k x0:=by kernel_rfl
def DL(k:Nat)(x0:Int):Option Bool:=
 (aE k (x0,(0:Int),(2047:Int))).bind fun y1=>
 some y1
theorem Fe(k:Nat)(x0:Int):ju (k+1) (x0)=DL k x0:=by kernel_rfl
def rO(k:Nat)(x0:Int):Option Int:=
 (bif (decide (x0≤(0:Int)))then some (0:Int)else(if((32:Int):Int)≠0 then some (aa .i64 ((aa .i64 ((aa .i64 (x0-(1:Int))).tdiv (32:Int)))+(1:Int)))else none))
theorem xC(k:Nat)(x0:Int):di (k+1) (x0)=rO k x0:=by kernel_rfl
def Bi(k:Nat)(x0:av):Option Bool:=
 (aE k (x0.2.2,(0:Int),(7:Int))).bind fun y1=>
 (bif (!y1)then some false else(bif (x0.1==(1:Int))then(bif (x0.1==(1:Int))then(aE k (x0.2.1,(0:Int),(3:Int))).bind fun y2=>
 some y2 else(bif (x0.1==(3:Int))then some (x0.2.1==(0:Int))else some false))else(bif (x0.1==(2:Int))then(aE k (x0.2.1,(0:Int),(3:Int))).bind fun y3=>
 some y3 else(bif (x0.1==(3:Int))then some (x0.2.1==(0:Int))else some false))))
theorem DV(k:Nat)(x0:av):o7 (k+1) (x0)=Bi k x0:=by kernel_rfl
def oe(k:Nat)(self:_→Option Bool)(d:((List av)×((List av)×az))):=
 (bif (decide (d.2.2.2<d.2.2.1))then(if 0≤d.2.2.2 then(d.2.1[d.2.2.2.toNat]?).bind fun v0=>
 (o7 k v0).bind fun v1=>
 (bif (!v1)then some false else(bif (decide ((0:Int)<d.2.2.2))then(if 0≤(aa .i64 (d.2.2.2-(1:Int)))then(d.1[(aa .i64 (d.2.2.2-(1:Int))).toNat]?).bind fun v2=>
 (bif (decide (v0.1<v2.1))then some false else(if 0≤(aa .i64 (d.2.2.2-(1:Int)))then(d.1[(aa .i64 (d.2.2.2-(1:Int))).toNat]?).bind fun v3=>
 (bif (v3.1==v0.1)then(if 0≤(aa .i64 (d.2.2.2-(1:Int)))then(d.1[(aa .i64 (d.2.2.2-(1:Int))).toNat]?).bind fun v4=>
 (bif (decide (v0.2.1≤v4.2.1))then some false else self (d.1,d.2.1,d.2.2.1,(aa .i64 (d.2.2.2+(1:Int)))))else none)else self (d.1,d.2.1,d.2.2.1,(aa .i64 (d.2.2.2+(1:Int)))))else none))else none)else self (d.1,d.2.1,d.2.2.1,(aa .i64 (d.2.2.2+(1:Int))))))else none)else(bif ((d.1.length:Int)==(0:Int))then some true else(bif (decide ((d.1.length:Int)≤(6:Int)))then(if 0≤(aa .i64 ((d.1.length:Int)-(1:Int)))then(d.1[(aa .i64 ((d.1.length:Int)-(1:Int))).toNat]?).bind fun v5=>
 some (v5.1==(3:Int))else none)else some false)))
def I8(k:Nat)(x0:(List av)):Option Bool:=
 iter k (oe k) (x0,x0,(x0.length:Int),(0:Int))
theorem I4(k:Nat)(x0:(List av)):mw (k+1) (x0)=I8 k x0:=by kernel_rfl
def kP(k:Nat)(self:_→Option Bool)(d:(Unit×((List Int)×(Int×(Int×ax))))):=
 let e0:=d.2.2.2.2
 (bif (decide (d.2.2.2.1<d.2.2.1))then(if 0≤d.2.2.2.1 then(d.2.1[d.2.2.2.1.toNat]?).bind fun v0=>
 (aE k (v0,(-1:Int),(999:Int))).bind fun v1=>
 (bif (!v1)then some false else(bif (v0 != (-1:Int))then(if 0≤d.2.2.2.1 then(if d.2.2.2.1≤(e0.2.2.2.2.2.2.2.1.length:Int)then(ob k (((e0.2.2.2.2.2.2.2.1.take d.2.2.2.1.toNat).drop 0),v0)).bind fun v2=>
 (bif v2 then some false else self ((),d.2.1,d.2.2.1,(aa .i64 (d.2.2.2.1+(1:Int))),e0))else none)else none)else self ((),d.2.1,d.2.2.1,(aa .i64 (d.2.2.2.1+(1:Int))),e0)))else none)else(rK (R:=Bool) ((bif (e0.1==(1:Int))then(bif (decide ((0:Int)<(e0.2.2.2.2.2.2.2.2.2.length:Int)))then((some false).map .inr)else(bif ((intBits .and .i64 e0.2.1 (512:Int)) != (0:Int))then((some false).map .inr)else some (.inl ((),e0))))else some (.inl ((),e0)))) fun(v3:(Unit×ax))=>(mw k v3.2.2.2.2.2.2.2.2.2.1).bind fun v4=>
 (bif v4 then(mw k v3.2.2.2.2.2.2.2.2.2.2).bind fun v5=>
 some v5 else some false)))
def EW(k:Nat)(x0:ax):Option Bool:=
 (bif (x0.1==(0:Int))then(jx k (x0,((0:Int),(0:Int),(0:Int),(0:Int),(0:Int),(0:Int),(0:Int),([]:List Int),([]:List av),([]:List av)))).bind fun y1=>
 some y1 else(rK (R:=Bool) ((bif (x0.1 != (1:Int))then(bif (x0.1 != (2:Int))then((some false).map .inr)else(ju k x0.2.1).bind fun y3=>
 (bif (!y3)then((some false).map .inr)else(cu k x0.2.2.1).bind fun y4=>
 (bif (!y4)then((some false).map .inr)else(cu k x0.2.2.2.1).bind fun y5=>
 (bif (!y5)then((some false).map .inr)else(aE k (x0.2.2.2.2.1,(0:Int),(1000:Int))).bind fun y6=>
 (bif (!y6)then((some false).map .inr)else(aE k (x0.2.2.2.2.2.1,(0:Int),(256:Int))).bind fun y7=>
 (bif (!y7)then((some false).map .inr)else(aE k (x0.2.2.2.2.2.2.1,(0:Int),(1000000000:Int))).bind fun y8=>
 (bif (!y8)then((some false).map .inr)else(di k x0.2.2.2.2.2.1).bind fun y9=>
 (bif ((x0.2.2.2.2.2.2.2.1.length:Int) != y9)then((some false).map .inr)else some (.inl ((),x0))))))))))else(ju k x0.2.1).bind fun y10=>
 (bif (!y10)then((some false).map .inr)else(cu k x0.2.2.1).bind fun y11=>
 (bif (!y11)then((some false).map .inr)else(cu k x0.2.2.2.1).bind fun y12=>
 (bif (!y12)then((some false).map .inr)else(aE k (x0.2.2.2.2.1,(0:Int),(1000:Int))).bind fun y13=>
 (bif (!y13)then((some false).map .inr)else(aE k (x0.2.2.2.2.2.1,(0:Int),(256:Int))).bind fun y14=>
 (bif (!y14)then((some false).map .inr)else(aE k (x0.2.2.2.2.2.2.1,(0:Int),(1000000000:Int))).bind fun y15=>
 (bif (!y15)then((some false).map .inr)else(di k x0.2.2.2.2.2.1).bind fun y16=>
 (bif ((x0.2.2.2.2.2.2.2.1.length:Int) != y16)then((some false).map .inr)else some (.inl ((),x0))))))))))) fun(d2:(Unit×ax))=>iter k (kP k) ((),d2.2.2.2.2.2.2.2.2.1,(d2.2.2.2.2.2.2.2.2.1.length:Int),(0:Int),d2.2)))
theorem FI(k:Nat)(x0:ax):mR (k+1) (x0)=EW k x0:=by kernel_rfl
def wi(k:Nat)(x0:Int):Option Int:=
 (aE k (x0,(0:Int),(55:Int))).bind fun y1=>
 (bif (!y1)then some (-1:Int)else(if((14:Int):Int)≠0 then some (aa .i64 (x0.tdiv (14:Int)))else none))
theorem Ax(k:Nat)(x0:Int):lV (k+1) (x0)=wi k x0:=by kernel_rfl
def hY(k:Nat)(a0:_→Option ((List Bool)×Bool))(self:_→Option ((List Bool)×Bool))(d:((List Bool)×(Unit×((List ax)×(Int×(Int×((List Int)×(Int×(Int×ax))))))))):=
 let e0:=d.2.2.2.2
 (bif (decide (e0.2.2.2.1<e0.2.2.1))then(if 0≤e0.2.2.2.1 then(e0.2.1[e0.2.2.2.1.toNat]?).bind fun v0=>
 (bif (v0==(-1:Int))then self (d.1,(),d.2.2.1,d.2.2.2.1,e0.1,e0.2.1,e0.2.2.1,(aa .i64 (e0.2.2.2.1+(1:Int))),e0.2.2.2.2)else(lV k v0).bind fun v1=>
 (bif (v1 != e0.2.2.2.2.2.2.1)then some (([]:List Bool),false)else(if 0≤v0 then(if v0<(d.1.length:Int)then(d.1[v0.toNat]?).bind fun v2=>
 (bif v2 then some (([]:List Bool),false)else(if 0≤v0 then(if v0<(d.1.length:Int)then(d.1[v0.toNat]?).bind fun v3=>
 self ((d.1.set v0.toNat true),(),d.2.2.1,d.2.2.2.1,e0.1,e0.2.1,e0.2.2.1,(aa .i64 (e0.2.2.2.1+(1:Int))),e0.2.2.2.2)else none)else none))else none)else none)))else none)else a0 (d.1,d.2.2.1,d.2.2.2.1,(aa .i64 (e0.1+(1:Int)))))
def kE(k:Nat)(self:_→Option ((List Bool)×Bool))(d:((List Bool)×((List ax)×az))):=
 (bif (decide (d.2.2.2<d.2.2.1))then(if 0≤d.2.2.2 then(d.2.1[d.2.2.2.toNat]?).bind fun v0=>
 iter k (hY k self) (d.1,(),d.2.1,d.2.2.1,d.2.2.2,v0.2.2.2.2.2.2.2.1,(v0.2.2.2.2.2.2.2.1.length:Int),(0:Int),v0)else none)else some (d.1,true))
def Dv(k:Nat)(x0:cQ):Option ((List Bool)×Bool):=
 (if 0≤(56:Int)then(if(56:Int)≤(56:Int)then(if(56:Int)*1≤(af:Int)then iter k (kE k) ((List.replicate (56:Int).toNat false),x0.2.2.1,(x0.2.2.1.length:Int),(0:Int))else none)else none)else none)
theorem F4(k:Nat)(x0:cQ):rm (k+1) (x0)=Dv k x0:=by kernel_rfl
def jO(k:Nat)(self:_→Option Bool)(d:dh):=
 (bif (decide (d.2<(d.1.size:Int)))then(if 0≤d.2 then((d.1[d.2.toNat]?.map fun v0=>(v0.toNat:Int))).bind fun v1=>
 (bif (v1 != (0:Int))then some false else self (d.1,(aa .i64 (d.2+(1:Int)))))else none)else some true)
def AY(k:Nat)(x0:ByteArray):Option Bool:=
 iter k (jO k) (x0,(0:Int))
theorem C2(k:Nat)(x0:ByteArray):kW (k+1) (x0)=AY k x0:=by kernel_rfl
def j9(k:Nat)(self:_→Option Bool)(d:(Unit×((List ax)×(Int×(Int×cQ))))):=
 let e0:=d.2.2.2.2
 (bif (decide (d.2.2.2.1<d.2.2.1))then(if 0≤d.2.2.2.1 then(d.2.1[d.2.2.2.1.toNat]?).bind fun v0=>
 (bif (decide ((0:Int)≤(aa .i64 ((v0.2.2.2.2.2.2.2.1.length:Int)-(1:Int)))))then(if 0≤(aa .i64 ((v0.2.2.2.2.2.2.2.1.length:Int)-(1:Int)))then(v0.2.2.2.2.2.2.2.1[(aa .i64 ((v0.2.2.2.2.2.2.2.1.length:Int)-(1:Int))).toNat]?).bind fun v1=>
 (bif (v1 != (-1:Int))then(if 0≤(aa .i64 ((v0.2.2.2.2.2.2.2.1.length:Int)-(1:Int)))then(v0.2.2.2.2.2.2.2.1[(aa .i64 ((v0.2.2.2.2.2.2.2.1.length:Int)-(1:Int))).toNat]?).bind fun v2=>
 (if 0≤v2 then(e0.2.2.2[v2.toNat]?).bind fun v3=>
 (if 0≤(aa .i64 (v0.2.2.2.2.2.1-(aa .i64 ((aa .i64 ((v0.2.2.2.2.2.2.2.1.length:Int)-(1:Int)))*(32:Int)))))then(if(aa .i64 (v0.2.2.2.2.2.1-(aa .i64 ((aa .i64 ((v0.2.2.2.2.2.2.2.1.length:Int)-(1:Int)))*(32:Int)))))≤(v3.size:Int)then(kW k (v3.extract ((aa .i64 (v0.2.2.2.2.2.1-(aa .i64 ((aa .i64 ((v0.2.2.2.2.2.2.2.1.length:Int)-(1:Int)))*(32:Int))))).toNat) v3.size)).bind fun v4=>
 (bif (!v4)then some false else self ((),d.2.1,d.2.2.1,(aa .i64 (d.2.2.2.1+(1:Int))),e0))else none)else none)else none)else none)else self ((),d.2.1,d.2.2.1,(aa .i64 (d.2.2.2.1+(1:Int))),e0))else none)else self ((),d.2.1,d.2.2.1,(aa .i64 (d.2.2.2.1+(1:Int))),e0))else none)else some true)
def jy(k:Nat)(self:_→Option Bool)(d:(Unit×((List Bool)×((List ByteArray)×(Int×(Int×cQ)))))):=
 let e0:=d.2.2.2.2
 (bif (decide (e0.1<d.2.2.2.1))then(if 0≤e0.1 then(d.2.2.1[e0.1.toNat]?).bind fun v0=>
 (bif ((v0.size:Int) != (32:Int))then some false else(if 0≤e0.1 then(if e0.1<(d.2.1.length:Int)then(d.2.1[e0.1.toNat]?).bind fun v1=>
 (bif (!v1)then(kW k v0).bind fun v2=>
 (bif (!v2)then some false else self ((),d.2.1,d.2.2.1,d.2.2.2.1,(aa .i64 (e0.1+(1:Int))),e0.2))else self ((),d.2.1,d.2.2.1,d.2.2.2.1,(aa .i64 (e0.1+(1:Int))),e0.2))else none)else none))else none)else iter k (j9 k) ((),e0.2.2.2.1,(e0.2.2.2.1.length:Int),(0:Int),e0.2))
def jM(k:Nat)(self:_→Option Bool)(d:(Unit×((List ax)×(Int×(Int×cQ))))):=
 let e0:=d.2.2.2.2
 (bif (decide (d.2.2.2.1<d.2.2.1))then(if 0≤d.2.2.2.1 then(d.2.1[d.2.2.2.1.toNat]?).bind fun v0=>
 (mR k v0).bind fun v1=>
 (bif (!v1)then some false else self ((),d.2.1,d.2.2.1,(aa .i64 (d.2.2.2.1+(1:Int))),e0))else none)else(if 0≤(0:Int)then(e0.2.2.1[(0:Int).toNat]?).bind fun v2=>
 (bif (v2.1 != (2:Int))then some false else(rm k e0).bind fun v3=>
 (bif (!v3.2)then some false else iter k (jy k) ((),v3.1,e0.2.2.2,(e0.2.2.2.length:Int),(0:Int),e0)))else none))
def pQ(k:Nat)(self:_→Option Bool)(d:(Unit×((List az)×(Int×(Int×cQ))))):=
 let e0:=d.2.2.2.2
 (bif (decide (d.2.2.2.1<d.2.2.1))then(if 0≤d.2.2.2.1 then(d.2.1[d.2.2.2.1.toNat]?).bind fun v0=>
 (aE k (v0.1,(0:Int),(5:Int))).bind fun v1=>
 (bif (!v1)then some false else(aE k (v0.2,(0:Int),(14:Int))).bind fun v2=>
 (bif (!v2)then some false else self ((),d.2.1,d.2.2.1,(aa .i64 (d.2.2.2.1+(1:Int))),e0)))else none)else iter k (jM k) ((),e0.2.2.1,(e0.2.2.1.length:Int),(0:Int),e0))
def Lx(k:Nat)(x0:cQ):Option Bool:=
 (aE k (x0.1,(0:Int),(1000000000:Int))).bind fun y1=>
 (bif (!y1)then some false else(bif ((x0.2.1.length:Int) != (4:Int))then some false else(bif ((x0.2.2.1.length:Int) != (20:Int))then some false else(bif ((x0.2.2.2.length:Int) != (56:Int))then some false else iter k (pQ k) ((),x0.2.1,(x0.2.1.length:Int),(0:Int),x0)))))
theorem K3(k:Nat)(x0:cQ):oH (k+1) (x0)=Lx k x0:=by kernel_rfl
def lW(k:Nat)(self:_→Option Bool)(d:(Unit×((List Int)×(Int×(Int×fG))))):=
 let e0:=d.2.2.2.2
 (bif (decide (d.2.2.2.1<d.2.2.1))then(if 0≤d.2.2.2.1 then(d.2.1[d.2.2.2.1.toNat]?).bind fun v0=>
 (cu k v0).bind fun v1=>
 (bif (!v1)then some false else(bif (decide ((0:Int)<d.2.2.2.1))then(if 0≤(aa .i64 (d.2.2.2.1-(1:Int)))then(e0.2.2[(aa .i64 (d.2.2.2.1-(1:Int))).toNat]?).bind fun v2=>
 (bif (decide (v0≤v2))then some false else self ((),d.2.1,d.2.2.1,(aa .i64 (d.2.2.2.1+(1:Int))),e0))else none)else self ((),d.2.1,d.2.2.1,(aa .i64 (d.2.2.2.1+(1:Int))),e0)))else none)else(cu k e0.1).bind fun v3=>
 (bif v3 then(cu k e0.2.1).bind fun v4=>
 some v4 else some false))
def HM(k:Nat)(x0:fG):Option Bool:=
 iter k (lW k) ((),x0.2.2,(x0.2.2.length:Int),(0:Int),x0)
theorem Ih(k:Nat)(x0:fG):tv (k+1) (x0)=HM k x0:=by kernel_rfl
def EA(k:Nat)(x0:cQ)(x1:av):Option Bool:=
 (bif (x1.2.2==(0:Int))then some ((x1.1==(0:Int))&&((x1.2.1==(0:Int))&&(x1.2.2==(0:Int))))else(aE k (x1.2.2,(1:Int),(63:Int))).bind fun y1=>
 (bif y1 then(bif ((intBits .and .i64 x1.2.2 (6:Int)) != (0:Int))then(aE k (x1.1,(0:Int),(19:Int))).bind fun y2=>
 (bif y2 then(if 0≤x1.1 then(x0.2.2.1[x1.1.toNat]?).bind fun y3=>
 (bif (y3.1==(1:Int))then(aE k (x1.2.1,(0:Int),(1000000:Int))).bind fun y4=>
 some y4 else some false)else none)else some false)else some false)else some false))
theorem Fk(k:Nat)(x0:cQ)(x1:av):qV (k+1) (x0,x1)=EA k x0 x1:=by kernel_rfl
def kT(k:Nat)(a0:_→Option (List Int))(self:_→Option (List Int))(d:(Unit×((List Int)×(Int×(Bool×((List bL)×(Int×(Int×((List av)×(Int×(Int×bx))))))))))):=
 let e0:=d.2.2.2.2
 let e1:=e0.2.2.2.2
 (bif (decide (e1.2.1<e1.1))then(if 0≤e1.2.1 then(e0.2.2.2.1[e1.2.1.toNat]?).bind fun v0=>
 (bif d.2.2.2.1 then self ((),d.2.1,d.2.2.1,true,e0.1,e0.2.1,e0.2.2.1,e0.2.2.2.1,e1.1,(aa .i64 (e1.2.1+(1:Int))),e1.2.2)else(bif (v0.2.2 != (0:Int))then self ((),d.2.1,d.2.2.1,(v0.1==d.2.2.1),e0.1,e0.2.1,e0.2.2.1,e0.2.2.2.1,e1.1,(aa .i64 (e1.2.1+(1:Int))),e1.2.2)else self ((),d.2.1,d.2.2.1,false,e0.1,e0.2.1,e0.2.2.1,e0.2.2.2.1,e1.1,(aa .i64 (e1.2.1+(1:Int))),e1.2.2)))else none)else a0 ((),d.2.1,d.2.2.1,d.2.2.2.1,e0.1,e0.2.1,(aa .i64 (e0.2.2.1+(1:Int))),e1.2.2))
def kR(k:Nat)(a0:_→Option (List Int))(self:_→Option (List Int))(d:(Unit×((List Int)×(Int×(Bool×((List bL)×(Int×(Int×bx)))))))):=
 let e0:=d.2.2.2.2
 (bif (decide (e0.2.2.1<e0.2.1))then(if 0≤e0.2.2.1 then(e0.1[e0.2.2.1.toNat]?).bind fun v0=>
 iter k (kT k self) ((),d.2.1,d.2.2.1,d.2.2.2.1,e0.1,e0.2.1,e0.2.2.1,v0.2,(v0.2.length:Int),(0:Int),e0.2.2.2)else none)else(bif d.2.2.2.1 then(if(d.2.1.length+([d.2.2.1]:List Int).length)*8≤af then a0 ((),(d.2.1++([d.2.2.1]:List Int)),(aa .i64 (d.2.2.1+(1:Int))),e0.2.2.2)else none)else a0 ((),d.2.1,(aa .i64 (d.2.2.1+(1:Int))),e0.2.2.2)))
def kL(k:Nat)(self:_→Option (List Int))(d:(Unit×((List Int)×(Int×bx)))):=
 (bif (decide (d.2.2.1<(20:Int)))then iter k (kR k self) ((),d.2.1,d.2.2.1,false,d.2.2.2.2,(d.2.2.2.2.length:Int),(0:Int),d.2.2.2)else some d.2.1)
def EJ(k:Nat)(x0:bx):Option (List Int):=
 iter k (kL k) ((),([]:List Int),(0:Int),x0)
theorem FD(k:Nat)(x0:bx):rA (k+1) (x0)=EJ k x0:=by kernel_rfl
def jP(k:Nat)(a0:_→Option Bool)(self:_→Option Bool)(d:(Unit×((List bL)×(Int×(Int×((List av)×(Int×(Int×bx)))))))):=
 let e0:=d.2.2.2.2
 (bif (decide (e0.2.2.1<e0.2.1))then(if 0≤e0.2.2.1 then(e0.1[e0.2.2.1.toNat]?).bind fun v0=>
 (qV k (e0.2.2.2.1,v0)).bind fun v1=>
 (bif (!v1)then some false else self ((),d.2.1,d.2.2.1,d.2.2.2.1,e0.1,e0.2.1,(aa .i64 (e0.2.2.1+(1:Int))),e0.2.2.2))else none)else a0 ((),d.2.1,d.2.2.1,(aa .i64 (d.2.2.2.1+(1:Int))),e0.2.2.2))
def ga(k:Nat)(self:_→Option Bool)(d:((List Int)×((List ax)×az))):=
 (bif (decide (d.2.2.2<d.2.2.1))then(if 0≤d.2.2.2 then(d.2.1[d.2.2.2.toNat]?).bind fun v0=>
 (bif (v0.1==(1:Int))then(bif (v0.2.2.2.2.1==(0:Int))then(ob k (d.1,d.2.2.2)).bind fun v1=>
 (bif (!v1)then some false else self (d.1,d.2.1,d.2.2.1,(aa .i64 (d.2.2.2+(1:Int)))))else self (d.1,d.2.1,d.2.2.1,(aa .i64 (d.2.2.2+(1:Int)))))else self (d.1,d.2.1,d.2.2.1,(aa .i64 (d.2.2.2+(1:Int)))))else none)else some true)
def j8(k:Nat)(self:_→Option Bool)(d:(Unit×((List bL)×(Int×(Int×bx))))):=
 let e0:=d.2.2.2.2
 (bif (decide (d.2.2.2.1<d.2.2.1))then(if 0≤d.2.2.2.1 then(d.2.1[d.2.2.2.1.toNat]?).bind fun v0=>
 (tv k v0.1).bind fun v1=>
 (bif (!v1)then some false else(bif ((v0.2.length:Int) != (3:Int))then some false else iter k (jP k self) ((),d.2.1,d.2.2.1,d.2.2.2.1,v0.2,(v0.2.length:Int),(0:Int),e0)))else none)else(rA k e0).bind fun v2=>
 iter k (ga k) (v2,e0.1.2.2.1,(e0.1.2.2.1.length:Int),(0:Int)))
def BN(k:Nat)(x0:bx):Option Bool:=
 (oH k x0.1).bind fun y1=>
 (bif (!y1)then some false else(bif ((x0.2.length:Int) != (4:Int))then some false else iter k (j8 k) ((),x0.2,(x0.2.length:Int),(0:Int),x0)))
theorem EX(k:Nat)(x0:bx):pq (k+1) (x0)=BN k x0:=by kernel_rfl
def jl(k:Nat)(self:_→Option Bool)(d:(Unit×((List ar)×(Int×(Int×bF))))):=
 let e0:=d.2.2.2.2
 (bif (decide (d.2.2.2.1<d.2.2.1))then(if 0≤d.2.2.2.1 then(d.2.1[d.2.2.2.1.toNat]?).bind fun v0=>
 (aE k (v0.1,(0:Int),(aa .i64 ((e0.1.length:Int)-(1:Int))))).bind fun v1=>
 (bif (!v1)then some false else(bif ((v0.2.size:Int) != (32:Int))then some false else self ((),d.2.1,d.2.2.1,(aa .i64 (d.2.2.2.1+(1:Int))),e0)))else none)else(bif (decide ((e0.1.length:Int)≤(400:Int)))then some (decide ((e0.2.length:Int)≤(400:Int)))else some false))
def lT(k:Nat)(self:_→Option Bool)(d:(Unit×((List ByteArray)×(Int×(Int×bF))))):=
 let e0:=d.2.2.2.2
 (bif (decide (d.2.2.2.1<d.2.2.1))then(if 0≤d.2.2.2.1 then(d.2.1[d.2.2.2.1.toNat]?).bind fun v0=>
 (bif ((v0.size:Int) != (32:Int))then some false else self ((),d.2.1,d.2.2.1,(aa .i64 (d.2.2.2.1+(1:Int))),e0))else none)else iter k (jl k) ((),e0.2,(e0.2.length:Int),(0:Int),e0))
def Hf(k:Nat)(x0:bF):Option Bool:=
 iter k (lT k) ((),x0.1,(x0.1.length:Int),(0:Int),x0)
theorem Is(k:Nat)(x0:bF):il (k+1) (x0)=Hf k x0:=by kernel_rfl
def kI(k:Nat)(self:_→Option ByteArray)(d:(Int×(Unit×(Int×bF)))):=
 (bif (decide ((0:Int)≤d.2.2.1))then(if 0≤d.2.2.1 then(d.2.2.2.2[d.2.2.1.toNat]?).bind fun v0=>
 (bif (v0.1==d.1)then(if 0≤d.2.2.1 then(d.2.2.2.2[d.2.2.1.toNat]?).bind fun v1=>
 some v1.2 else none)else self (d.1,(),(aa .i64 (d.2.2.1-(1:Int))),d.2.2.2))else none)else(if 0≤d.1 then(d.2.2.2.1[d.1.toNat]?).bind fun v2=>
 some v2 else none))
def C9(k:Nat)(x0:bF)(x1:Int):Option ByteArray:=
 iter k (kI k) (x1,(),(aa .i64 ((x0.2.length:Int)-(1:Int))),x0)
theorem F0(k:Nat)(x0:bF)(x1:Int):jb (k+1) (x0,x1)=C9 k x0 x1:=by kernel_rfl
def iB(k:Nat)(self:_→Option (Int×Bool))(d:(ByteArray×(Int×av))):=
 let e0:=d.2.2.2.2
 (bif (decide (e0<d.2.2.1))then(if 0≤(aa .i64 (d.2.1+e0))then((d.1[(aa .i64 (d.2.1+e0)).toNat]?.map fun v0=>(v0.toNat:Int))).bind fun v1=>
 self (d.1,d.2.1,d.2.2.1,(aa .i64 ((aa .i64 ((256:Int)*d.2.2.2.1))+(aa .i64 v1))),(aa .i64 (e0+(1:Int))))else none)else some (d.2.2.2.1,true))
def zv(k:Nat)(x0:ByteArray)(x1:Int)(x2:Int):Option (Int×Bool):=
 (aE k (x2,(1:Int),(6:Int))).bind fun y1=>
 (bif (!y1)then some ((0:Int),false)else(bif (decide (x1<(0:Int)))then some ((0:Int),false)else(bif (decide ((aa .i64 ((x0.size:Int)-x2))<x1))then some ((0:Int),false)else iter k (iB k) (x0,x1,x2,(0:Int),(0:Int)))))
theorem Cs(k:Nat)(x0:ByteArray)(x1:Int)(x2:Int):bg (k+1) (x0,x1,x2)=zv k x0 x1 x2:=by kernel_rfl
def om(k:Nat)(self:_→Option Bool)(d:((List ar)×(Unit×((List ar)×(Int×(Int×bF)))))):=
 let e0:=d.2.2.2.2
 (bif (decide (e0.1<d.2.2.2.1))then(if 0≤e0.1 then(d.2.2.1[e0.1.toNat]?).bind fun v0=>
 (aE k (v0.1,(0:Int),(aa .i64 ((e0.2.1.length:Int)-(1:Int))))).bind fun v1=>
 (bif (!v1)then some false else(aE k (v0.1,(1:Int),(69:Int))).bind fun v2=>
 (bif v2 then some false else(bif ((v0.2.size:Int) != (32:Int))then some false else(bif (decide ((0:Int)<e0.1))then(if 0≤(aa .i64 (e0.1-(1:Int)))then(d.1[(aa .i64 (e0.1-(1:Int))).toNat]?).bind fun v3=>
 (bif (decide (v0.1≤v3.1))then some false else self (d.1,(),d.2.2.1,d.2.2.2.1,(aa .i64 (e0.1+(1:Int))),e0.2))else none)else self (d.1,(),d.2.2.1,d.2.2.2.1,(aa .i64 (e0.1+(1:Int))),e0.2)))))else none)else some true)
def Jy(k:Nat)(x0:bF)(x1:(List ar)):Option Bool:=
 (il k x0).bind fun y1=>
 (bif (!y1)then some false else(bif (decide ((x0.1.length:Int)<(70:Int)))then some false else(aE k ((x1.length:Int),(1:Int),(64:Int))).bind fun y2=>
 (bif (!y2)then some false else iter k (om k) (x1,(),x1,(x1.length:Int),(0:Int),x0))))
theorem KF(k:Nat)(x0:bF)(x1:(List ar)):vz (k+1) (x0,x1)=Jy k x0 x1:=by kernel_rfl
def nT(k:Nat)(self:_→Option ByteArray)(d:(Int×(List Int))):=
 (bif (decide ((d.2.length:Int)<d.1))then(if(d.2.length+([(0:Int)]:List Int).length)*1≤af then self (d.1,(d.2++([(0:Int)]:List Int)))else none)else some (ofBytes d.2))
def J6(k:Nat)(x0:ByteArray)(x1:Int):Option ByteArray:=
 (bif (decide ((100000:Int)<x1))then some (⟨#[]⟩:ByteArray)else iter k (nT k) (x1,(bytesOf x0)))
theorem Jr(k:Nat)(x0:ByteArray)(x1:Int):dE (k+1) (x0,x1)=J6 k x0 x1:=by kernel_rfl
def ot(k:Nat)(self:_→Option Bool)(d:((List ar)×((List ar)×az))):=
 (bif (decide (d.2.2.2<d.2.2.1))then(if 0≤d.2.2.2 then(d.2.1[d.2.2.2.toNat]?).bind fun v0=>
 (aE k (v0.1,(0:Int),(399:Int))).bind fun v1=>
 (bif (!v1)then some false else self (d.1,d.2.1,d.2.2.1,(aa .i64 (d.2.2.2+(1:Int)))))else none)else(aE k ((d.1.length:Int),(1:Int),(64:Int))).bind fun v2=>
 some v2)
def Je(k:Nat)(x0:(List ar)):Option Bool:=
 iter k (ot k) (x0,x0,(x0.length:Int),(0:Int))
theorem Ju(k:Nat)(x0:(List ar)):pN (k+1) (x0)=Je k x0:=by kernel_rfl
def iK(k:Nat)(self:_→Option ByteArray)(d:(Int×((List Int)×Int))):=
 (bif (decide ((0:Int)≤d.2.2))then(if((256:Int):Int)≠0 then(if 0≤d.2.2 then(if d.2.2<(d.2.1.length:Int)then(d.2.1[d.2.2.toNat]?).bind fun v0=>
 (if((256:Int):Int)≠0 then self ((aa .i64 (d.1.tdiv (256:Int))),(d.2.1.set d.2.2.toNat (aa .u8 (d.1.tmod (256:Int)))),(aa .i64 (d.2.2-(1:Int))))else none)else none)else none)else none)else some (ofBytes d.2.1))
def xU(k:Nat)(x0:Int)(x1:Int):Option ByteArray:=
 (aE k (x1,(1:Int),(6:Int))).bind fun y1=>
 (bif (!y1)then some (⟨#[]⟩:ByteArray)else(bif (decide (x0<(0:Int)))then some (⟨#[]⟩:ByteArray)else(if 0≤(aa .u64 ((8:Int)*(aa .u64 x1)))then(bif (decide ((aa .i64 ((1:Int)*2 ^(min (aa .u64 ((8:Int)*(aa .u64 x1))).toNat (IntKind.bits .i64))))≤x0))then some (⟨#[]⟩:ByteArray)else(if 0≤x1 then(if x1≤x1 then(if x1*1≤(af:Int)then iter k (iK k) (x0,(List.replicate x1.toNat (0:Int)),(aa .i64 (x1-(1:Int))))else none)else none)else none))else none)))
theorem CI(k:Nat)(x0:Int)(x1:Int):aL (k+1) (x0,x1)=xU k x0 x1:=by kernel_rfl
def gI(k:Nat)(self:_→Option Int)(d:(ByteArray×av)):=
 (bif (decide (d.2.2.2<(d.1.size:Int)))then(if 0≤d.2.2.2 then((d.1[d.2.2.2.toNat]?.map fun v0=>(v0.toNat:Int))).bind fun v1=>
 (if((65521:Int):Int)≠0 then(if((65521:Int):Int)≠0 then self (d.1,((aa .i64 (d.2.1+(aa .i64 v1))).tmod (65521:Int)),((aa .i64 (d.2.2.1+((aa .i64 (d.2.1+(aa .i64 v1))).tmod (65521:Int)))).tmod (65521:Int)),(aa .i64 (d.2.2.2+(1:Int))))else none)else none)else none)else some (aa .i64 ((aa .i64 (d.2.2.1*(65536:Int)))+d.2.1)))
def wb(k:Nat)(x0:ByteArray):Option Int:=
 iter k (gI k) (x0,(1:Int),(0:Int),(0:Int))
theorem AI(k:Nat)(x0:ByteArray):lS (k+1) (x0)=wb k x0:=by kernel_rfl
def fu(k:Nat)(self:_→Option ByteArray)(d:(Int×((List ar)×(ByteArray×((List ar)×az))))):=
 let e0:=d.2.2.2.2
 (bif (decide (e0.2<e0.1))then(if 0≤e0.2 then(d.2.2.2.1[e0.2.toNat]?).bind fun v0=>
 (aL k (v0.1,(2:Int))).bind fun v1=>
 (if d.2.2.1.size+v1.size≤9223372036854775807 then(if(d.2.2.1++v1).size+v0.2.size≤9223372036854775807 then self (d.1,d.2.1,((d.2.2.1++v1)++v0.2),d.2.2.2.1,e0.1,(aa .i64 (e0.2+(1:Int))))else none)else none)else none)else(aL k (d.1,(4:Int))).bind fun v2=>
 (if(⟨#[74,82,78,76]⟩:ByteArray).size+v2.size≤9223372036854775807 then(aL k ((d.2.1.length:Int),(2:Int))).bind fun v3=>
 (if((⟨#[74,82,78,76]⟩:ByteArray)++v2).size+v3.size≤9223372036854775807 then(lS k d.2.2.1).bind fun v4=>
 (aL k (v4,(4:Int))).bind fun v5=>
 (if(((⟨#[74,82,78,76]⟩:ByteArray)++v2)++v3).size+v5.size≤9223372036854775807 then(dE k (((((⟨#[74,82,78,76]⟩:ByteArray)++v2)++v3)++v5),(32:Int))).bind fun v6=>
 some v6 else none)else none)else none))
def sN(k:Nat)(x0:Int)(x1:(List ar)):Option ByteArray:=
 (aE k (x0,(0:Int),(1000000000:Int))).bind fun y1=>
 (bif (!y1)then some (⟨#[]⟩:ByteArray)else(pN k x1).bind fun y2=>
 (bif (!y2)then some (⟨#[]⟩:ByteArray)else iter k (fu k) (x0,x1,(⟨#[]⟩:ByteArray),x1,(x1.length:Int),(0:Int))))
theorem xD(k:Nat)(x0:Int)(x1:(List ar)):fR (k+1) (x0,x1)=sN k x0 x1:=by kernel_rfl
def fP(k:Nat)(self:_→Option (Int×((List ar)×Bool)))(d:(Unit×(ByteArray×(Int×(Int×((List ar)×(Int×bF))))))):=
 let e0:=d.2.2.2.2
 (bif (decide (e0.2.1<d.2.2.2.1))then(if((16:Int):Int)≠0 then(jb k (e0.2.2,(aa .i64 ((2:Int)+(aa .i64 (e0.2.1.tdiv (16:Int))))))).bind fun v0=>
 (if((16:Int):Int)≠0 then(bg k (v0,(aa .i64 ((2:Int)*(e0.2.1.tmod (16:Int)))),(2:Int))).bind fun v1=>
 (jb k (e0.2.2,(aa .i64 ((6:Int)+e0.2.1)))).bind fun v2=>
 (if(e0.1.length+([(v1.1,v2)]:List ar).length)*24≤af then self ((),d.2.1,d.2.2.1,d.2.2.2.1,(e0.1++([(v1.1,v2)]:List ar)),(aa .i64 (e0.2.1+(1:Int))),e0.2.2)else none)else none)else none)else(vz k (e0.2.2,e0.1)).bind fun v3=>
 (bif (!v3)then some ((0:Int),([]:List ar),false)else(fR k (d.2.2.1,e0.1)).bind fun v4=>
 (bif (!(lB v4 d.2.1))then some ((0:Int),([]:List ar),false)else some (d.2.2.1,e0.1,true))))
def tN(k:Nat)(x0:bF):Option (Int×((List ar)×Bool)):=
 (il k x0).bind fun y1=>
 (bif (!y1)then some ((0:Int),([]:List ar),false)else(bif (decide ((x0.1.length:Int)<(70:Int)))then some ((0:Int),([]:List ar),false)else(jb k (x0,(1:Int))).bind fun y2=>
 (bg k (y2,(4:Int),(4:Int))).bind fun y3=>
 (bg k (y2,(8:Int),(2:Int))).bind fun y4=>
 (aE k (y4.1,(1:Int),(64:Int))).bind fun y5=>
 (bif (!y5)then some ((0:Int),([]:List ar),false)else iter k (fP k) ((),y2,y3.1,y4.1,([]:List ar),(0:Int),x0))))
theorem zO(k:Nat)(x0:bF):lq (k+1) (x0)=tN k x0:=by kernel_rfl
def kb(k:Nat)(self:_→Option ByteArray)(d:(ByteArray×((List az)×az))):=
 (bif (decide (d.2.2.2<d.2.2.1))then(if 0≤d.2.2.2 then(d.2.1[d.2.2.2.toNat]?).bind fun v0=>
 (aL k (v0.1,(1:Int))).bind fun v1=>
 (if d.1.size+v1.size≤9223372036854775807 then(aL k (v0.2,(1:Int))).bind fun v2=>
 (if(d.1++v1).size+v2.size≤9223372036854775807 then self (((d.1++v1)++v2),d.2.1,d.2.2.1,(aa .i64 (d.2.2.2+(1:Int))))else none)else none)else none)else(dE k (d.1,(32:Int))).bind fun v3=>
 some v3)
def Bh(k:Nat)(x0:cQ):Option ByteArray:=
 (aL k (x0.1,(4:Int))).bind fun y1=>
 (if(⟨#[70,83,89,83]⟩:ByteArray).size+y1.size≤9223372036854775807 then iter k (kb k) (((⟨#[70,83,89,83]⟩:ByteArray)++y1),x0.2.1,(x0.2.1.length:Int),(0:Int))else none)
theorem Df(k:Nat)(x0:cQ):o3 (k+1) (x0)=Bh k x0:=by kernel_rfl
def dF(k:Nat)(self:_→Option (List ByteArray))(d:(ByteArray×(Int×(List ByteArray)))):=
 (bif (decide (d.2.1<(d.1.size:Int)))then(if 0≤d.2.1 then(if d.2.1≤(d.1.size:Int)then(if(d.2.2.length+([(d.1.extract 0 d.2.1.toNat)]:List ByteArray).length)*16≤af then(if 0≤d.2.1 then(if d.2.1≤(d.1.size:Int)then self ((d.1.extract d.2.1.toNat d.1.size),d.2.1,(d.2.2++([(d.1.extract 0 d.2.1.toNat)]:List ByteArray)))else none)else none)else none)else none)else none)else(bif (!(lB d.1 (⟨#[]⟩:ByteArray)))then(if(d.2.2.length+([d.1]:List ByteArray).length)*16≤af then some (d.2.2++([d.1]:List ByteArray))else none)else some d.2.2))
def zb(k:Nat)(x0:ByteArray)(x1:Int):Option (List ByteArray):=
 (aE k (x1,(1:Int),(1000:Int))).bind fun y1=>
 (bif (!y1)then some ([]:List ByteArray)else iter k (dF k) (x0,x1,([]:List ByteArray)))
theorem w9(k:Nat)(x0:ByteArray)(x1:Int):kA (k+1) (x0,x1)=zb k x0 x1:=by kernel_rfl
def kM(k:Nat)(self:_→Option ByteArray)(d:(ByteArray×((List av)×az))):=
 (bif (decide (d.2.2.2<d.2.2.1))then(if 0≤d.2.2.2 then(d.2.1[d.2.2.2.toNat]?).bind fun v0=>
 (aL k (v0.1,(1:Int))).bind fun v1=>
 (if d.1.size+v1.size≤9223372036854775807 then(aL k (v0.2.1,(1:Int))).bind fun v2=>
 (if(d.1++v1).size+v2.size≤9223372036854775807 then(aL k (v0.2.2,(1:Int))).bind fun v3=>
 (if((d.1++v1)++v2).size+v3.size≤9223372036854775807 then self ((((d.1++v1)++v2)++v3),d.2.1,d.2.2.1,(aa .i64 (d.2.2.2+(1:Int))))else none)else none)else none)else none)else(dE k (d.1,(19:Int))).bind fun v4=>
 some v4)
def vk(k:Nat)(x0:(List av)):Option ByteArray:=
 (mw k x0).bind fun y1=>
 (bif (!y1)then some (⟨#[]⟩:ByteArray)else(aL k ((x0.length:Int),(1:Int))).bind fun y2=>
 iter k (kM k) (y2,x0,(x0.length:Int),(0:Int)))
theorem uA(k:Nat)(x0:(List av)):dI (k+1) (x0)=vk k x0:=by kernel_rfl
def iP(k:Nat)(self:_→Option ByteArray)(d:(Unit×(ByteArray×(Int×ax)))):=
 let e0:=d.2.2.2.2
 let e1:=e0.2.2.2.2
 (bif (decide (d.2.2.1<(8:Int)))then(bif (decide (d.2.2.1<(e1.2.2.1.length:Int)))then(if 0≤d.2.2.1 then(e1.2.2.1[d.2.2.1.toNat]?).bind fun v0=>
 (aL k ((aa .i64 (v0+(1:Int))),(2:Int))).bind fun v1=>
 (if d.2.1.size+v1.size≤9223372036854775807 then self ((),(d.2.1++v1),(aa .i64 (d.2.2.1+(1:Int))),d.2.2.2)else none)else none)else(aL k ((aa .i64 ((-1:Int)+(1:Int))),(2:Int))).bind fun v2=>
 (if d.2.1.size+v2.size≤9223372036854775807 then self ((),(d.2.1++v2),(aa .i64 (d.2.2.1+(1:Int))),d.2.2.2)else none))else(dI k e1.2.2.2.1).bind fun v3=>
 (if d.2.1.size+v3.size≤9223372036854775807 then(dI k e1.2.2.2.2).bind fun v4=>
 (if(d.2.1++v3).size+v4.size≤9223372036854775807 then(dE k (((d.2.1++v3)++v4),(96:Int))).bind fun v5=>
 some v5 else none)else none))
def qh(k:Nat)(x0:ax):Option ByteArray:=
 (mR k x0).bind fun y1=>
 (bif (!y1)then some (⟨#[]⟩:ByteArray)else(aL k (x0.1,(1:Int))).bind fun y2=>
 (aL k (x0.2.1,(2:Int))).bind fun y3=>
 (if y2.size+y3.size≤9223372036854775807 then(aL k (x0.2.2.1,(1:Int))).bind fun y4=>
 (if(y2++y3).size+y4.size≤9223372036854775807 then(aL k (x0.2.2.2.1,(1:Int))).bind fun y5=>
 (if((y2++y3)++y4).size+y5.size≤9223372036854775807 then(aL k (x0.2.2.2.2.1,(2:Int))).bind fun y6=>
 (if(((y2++y3)++y4)++y5).size+y6.size≤9223372036854775807 then(aL k (x0.2.2.2.2.2.1,(2:Int))).bind fun y7=>
 (if((((y2++y3)++y4)++y5)++y6).size+y7.size≤9223372036854775807 then(aL k (x0.2.2.2.2.2.2.1,(4:Int))).bind fun y8=>
 (if(((((y2++y3)++y4)++y5)++y6)++y7).size+y8.size≤9223372036854775807 then iter k (iP k) ((),((((((y2++y3)++y4)++y5)++y6)++y7)++y8),(0:Int),x0)else none)else none)else none)else none)else none)else none))
theorem qY(k:Nat)(x0:ax):cj (k+1) (x0)=qh k x0:=by kernel_rfl
def kQ(k:Nat)(self:_→Option (List ByteArray))(d:(Unit×((List ByteArray)×((List ax)×(Int×(Int×cQ)))))):=
 let e0:=d.2.2.2.2
 (bif (decide (e0.1<d.2.2.2.1))then(if 0≤e0.1 then(d.2.2.1[e0.1.toNat]?).bind fun v0=>
 (cj k v0).bind fun v1=>
 (kA k (v1,(32:Int))).bind fun v2=>
 (if(d.2.1.length+v2.length)*16≤af then self ((),(d.2.1++v2),d.2.2.1,d.2.2.2.1,(aa .i64 (e0.1+(1:Int))),e0.2)else none)else none)else(if(d.2.1.length+e0.2.2.2.2.length)*16≤af then some (d.2.1++e0.2.2.2.2)else none))
def kV(k:Nat)(self:_→Option (List ByteArray))(d:(Unit×((List ByteArray)×cQ))):=
 (bif (decide ((d.2.1.length:Int)<(70:Int)))then(dE k ((⟨#[]⟩:ByteArray),(32:Int))).bind fun v0=>
 (if(d.2.1.length+([v0]:List ByteArray).length)*16≤af then self ((),(d.2.1++([v0]:List ByteArray)),d.2.2)else none)else iter k (kQ k) ((),d.2.1,d.2.2.2.2.1,(d.2.2.2.2.1.length:Int),(0:Int),d.2.2))
def EF(k:Nat)(x0:cQ):Option (List ByteArray):=
 (o3 k x0).bind fun y1=>
 iter k (kV k) ((),([y1]:List ByteArray),x0)
theorem F6(k:Nat)(x0:cQ):jr (k+1) (x0)=EF k x0:=by kernel_rfl
def iD(k:Nat)(self:_→Option ((List av)×Bool))(d:(ByteArray×((List av)×Int))):=
 (if 0≤(0:Int)then((d.1[(0:Int).toNat]?.map fun v0=>(v0.toNat:Int))).bind fun v1=>
 (bif (decide (d.2.2<(aa .i64 v1)))then(bif (decide (d.2.2<(6:Int)))then(if 0≤(aa .i64 ((aa .i64 ((3:Int)*d.2.2))+(1:Int)))then((d.1[(aa .i64 ((aa .i64 ((3:Int)*d.2.2))+(1:Int))).toNat]?.map fun v0=>(v0.toNat:Int))).bind fun v2=>
 (if 0≤(aa .i64 ((aa .i64 ((3:Int)*d.2.2))+(2:Int)))then((d.1[(aa .i64 ((aa .i64 ((3:Int)*d.2.2))+(2:Int))).toNat]?.map fun v0=>(v0.toNat:Int))).bind fun v3=>
 (if 0≤(aa .i64 ((aa .i64 ((3:Int)*d.2.2))+(3:Int)))then((d.1[(aa .i64 ((aa .i64 ((3:Int)*d.2.2))+(3:Int))).toNat]?.map fun v0=>(v0.toNat:Int))).bind fun v4=>
 (if(d.2.1.length+([((aa .i64 v2),(aa .i64 v3),(aa .i64 v4))]:List av).length)*24≤af then self (d.1,(d.2.1++([((aa .i64 v2),(aa .i64 v3),(aa .i64 v4))]:List av)),(aa .i64 (d.2.2+(1:Int))))else none)else none)else none)else none)else(dI k d.2.1).bind fun v5=>
 (bif (!(lB v5 d.1))then some (([]:List av),false)else some (d.2.1,true)))else(dI k d.2.1).bind fun v6=>
 (bif (!(lB v6 d.1))then some (([]:List av),false)else some (d.2.1,true)))else none)
def yW(k:Nat)(x0:ByteArray):Option ((List av)×Bool):=
 (bif ((x0.size:Int) != (19:Int))then some (([]:List av),false)else iter k (iD k) (x0,([]:List av),(0:Int)))
theorem Ca(k:Nat)(x0:ByteArray):c4 (k+1) (x0)=yW k x0:=by kernel_rfl
def fO(k:Nat)(self:_→Option (ax×Bool))(d:(ByteArray×(Unit×(Unit×(Int×(ax×ax)))))):=
 let e0:=d.2.2.2.2
 (di k e0.1.2.2.2.2.2.1).bind fun v0=>
 (bif (decide (d.2.2.2.1<v0))then(bif (decide (d.2.2.2.1<(8:Int)))then(bg k (d.1,(aa .i64 ((13:Int)+(aa .i64 ((2:Int)*d.2.2.2.1)))),(2:Int))).bind fun v1=>
 (if(e0.1.2.2.2.2.2.2.2.1.length+([(aa .i64 (v1.1-(1:Int)))]:List Int).length)*8≤af then self (d.1,(),(),(aa .i64 (d.2.2.2.1+(1:Int))),(e0.1.1,e0.1.2.1,e0.1.2.2.1,e0.1.2.2.2.1,e0.1.2.2.2.2.1,e0.1.2.2.2.2.2.1,e0.1.2.2.2.2.2.2.1,(e0.1.2.2.2.2.2.2.2.1++([(aa .i64 (v1.1-(1:Int)))]:List Int)),e0.1.2.2.2.2.2.2.2.2),e0.2)else none)else(if 0≤(48:Int)then(if(48:Int)≤(d.1.size:Int)then(if 0≤(29:Int)then(if(29:Int)≤(((48:Int).toNat:Nat):Int)then(c4 k (d.1.extract ((29:Int).toNat) ((48:Int).toNat))).bind fun v2=>
 (if 0≤(67:Int)then(if(67:Int)≤(d.1.size:Int)then(if 0≤(48:Int)then(if(48:Int)≤(((67:Int).toNat:Nat):Int)then(c4 k (d.1.extract ((48:Int).toNat) ((67:Int).toNat))).bind fun v3=>
 (cj k (e0.1.1,e0.1.2.1,e0.1.2.2.1,e0.1.2.2.2.1,e0.1.2.2.2.2.1,e0.1.2.2.2.2.2.1,e0.1.2.2.2.2.2.2.1,e0.1.2.2.2.2.2.2.2.1,v2.1,v3.1)).bind fun v4=>
 (bif (lB v4 (⟨#[]⟩:ByteArray))then some (((0:Int),(0:Int),(0:Int),(0:Int),(0:Int),(0:Int),(0:Int),([]:List Int),([]:List av),([]:List av)),false)else(cj k (e0.1.1,e0.1.2.1,e0.1.2.2.1,e0.1.2.2.2.1,e0.1.2.2.2.2.1,e0.1.2.2.2.2.2.1,e0.1.2.2.2.2.2.2.1,e0.1.2.2.2.2.2.2.2.1,v2.1,v3.1)).bind fun v5=>
 (bif (!(lB v5 d.1))then some (((0:Int),(0:Int),(0:Int),(0:Int),(0:Int),(0:Int),(0:Int),([]:List Int),([]:List av),([]:List av)),false)else some ((e0.1.1,e0.1.2.1,e0.1.2.2.1,e0.1.2.2.2.1,e0.1.2.2.2.2.1,e0.1.2.2.2.2.2.1,e0.1.2.2.2.2.2.2.1,e0.1.2.2.2.2.2.2.2.1,v2.1,v3.1),true)))else none)else none)else none)else none)else none)else none)else none)else none))else(if 0≤(48:Int)then(if(48:Int)≤(d.1.size:Int)then(if 0≤(29:Int)then(if(29:Int)≤(((48:Int).toNat:Nat):Int)then(c4 k (d.1.extract ((29:Int).toNat) ((48:Int).toNat))).bind fun v6=>
 (if 0≤(67:Int)then(if(67:Int)≤(d.1.size:Int)then(if 0≤(48:Int)then(if(48:Int)≤(((67:Int).toNat:Nat):Int)then(c4 k (d.1.extract ((48:Int).toNat) ((67:Int).toNat))).bind fun v7=>
 (cj k (e0.1.1,e0.1.2.1,e0.1.2.2.1,e0.1.2.2.2.1,e0.1.2.2.2.2.1,e0.1.2.2.2.2.2.1,e0.1.2.2.2.2.2.2.1,e0.1.2.2.2.2.2.2.2.1,v6.1,v7.1)).bind fun v8=>
 (bif (lB v8 (⟨#[]⟩:ByteArray))then some (((0:Int),(0:Int),(0:Int),(0:Int),(0:Int),(0:Int),(0:Int),([]:List Int),([]:List av),([]:List av)),false)else(cj k (e0.1.1,e0.1.2.1,e0.1.2.2.1,e0.1.2.2.2.1,e0.1.2.2.2.2.1,e0.1.2.2.2.2.2.1,e0.1.2.2.2.2.2.2.1,e0.1.2.2.2.2.2.2.2.1,v6.1,v7.1)).bind fun v9=>
 (bif (!(lB v9 d.1))then some (((0:Int),(0:Int),(0:Int),(0:Int),(0:Int),(0:Int),(0:Int),([]:List Int),([]:List av),([]:List av)),false)else some ((e0.1.1,e0.1.2.1,e0.1.2.2.1,e0.1.2.2.2.1,e0.1.2.2.2.2.1,e0.1.2.2.2.2.2.1,e0.1.2.2.2.2.2.2.1,e0.1.2.2.2.2.2.2.2.1,v6.1,v7.1),true)))else none)else none)else none)else none)else none)else none)else none)else none))
def uq(k:Nat)(x0:ByteArray):Option (ax×Bool):=
 (bif ((x0.size:Int) != (96:Int))then some (((0:Int),(0:Int),(0:Int),(0:Int),(0:Int),(0:Int),(0:Int),([]:List Int),([]:List av),([]:List av)),false)else(bg k (x0,(0:Int),(1:Int))).bind fun y1=>
 (bg k (x0,(1:Int),(2:Int))).bind fun y2=>
 (bg k (x0,(3:Int),(1:Int))).bind fun y3=>
 (bg k (x0,(4:Int),(1:Int))).bind fun y4=>
 (bg k (x0,(5:Int),(2:Int))).bind fun y5=>
 (bg k (x0,(7:Int),(2:Int))).bind fun y6=>
 (bg k (x0,(9:Int),(4:Int))).bind fun y7=>
 iter k (fO k) (x0,(),(),(0:Int),(y1.1,y2.1,y3.1,y4.1,y5.1,y6.1,y7.1,([]:List Int),([]:List av),([]:List av)),((0:Int),(0:Int),(0:Int),(0:Int),(0:Int),(0:Int),(0:Int),([]:List Int),([]:List av),([]:List av))))
theorem yz(k:Nat)(x0:ByteArray):la (k+1) (x0)=uq k x0:=by kernel_rfl
def eF(k:Nat)(self:_→Option (cQ×Bool))(d:((List ByteArray)×(Unit×(Unit×((List ByteArray)×(Int×(Int×(cQ×cQ)))))))):=
 let e0:=d.2.2.2.2
 (bif (decide (e0.2.1<e0.1))then(if 0≤e0.2.1 then(if e0.2.1<(d.2.2.2.1.length:Int)then(d.2.2.2.1[e0.2.1.toNat]?).bind fun v0=>
 (aE k (e0.2.1,(1:Int),(69:Int))).bind fun v1=>
 (bif (!v1)then(if 0≤e0.2.1 then(d.1[e0.2.1.toNat]?).bind fun v2=>
 (bif (!(lB v0 v2))then some (((0:Int),([]:List az),([]:List ax),([]:List ByteArray)),false)else self (d.1,(),(),d.2.2.2.1,e0.1,(aa .i64 (e0.2.1+(1:Int))),e0.2.2.1,e0.2.2.2))else none)else self (d.1,(),(),d.2.2.2.1,e0.1,(aa .i64 (e0.2.1+(1:Int))),e0.2.2.1,e0.2.2.2))else none)else none)else some (e0.2.2.1,true))
def gd(k:Nat)(self:_→Option (cQ×Bool))(d:((List ByteArray)×(Unit×(Unit×(Int×(cQ×cQ)))))):=
 let e0:=d.2.2.2.2
 (bif (decide (d.2.2.2.1<(20:Int)))then(if 0≤(aa .i64 ((70:Int)+(aa .i64 ((3:Int)*d.2.2.2.1))))then(d.1[(aa .i64 ((70:Int)+(aa .i64 ((3:Int)*d.2.2.2.1)))).toNat]?).bind fun v0=>
 (if 0≤(aa .i64 ((aa .i64 ((70:Int)+(aa .i64 ((3:Int)*d.2.2.2.1))))+(1:Int)))then(d.1[(aa .i64 ((aa .i64 ((70:Int)+(aa .i64 ((3:Int)*d.2.2.2.1))))+(1:Int))).toNat]?).bind fun v1=>
 (if v0.size+v1.size≤9223372036854775807 then(if 0≤(aa .i64 ((aa .i64 ((70:Int)+(aa .i64 ((3:Int)*d.2.2.2.1))))+(2:Int)))then(d.1[(aa .i64 ((aa .i64 ((70:Int)+(aa .i64 ((3:Int)*d.2.2.2.1))))+(2:Int))).toNat]?).bind fun v2=>
 (if(v0++v1).size+v2.size≤9223372036854775807 then(la k ((v0++v1)++v2)).bind fun v3=>
 (bif (!v3.2)then some (((0:Int),([]:List az),([]:List ax),([]:List ByteArray)),false)else(if(e0.1.2.2.1.length+([v3.1]:List ax).length)*128≤af then self (d.1,(),(),(aa .i64 (d.2.2.2.1+(1:Int))),(e0.1.1,e0.1.2.1,(e0.1.2.2.1++([v3.1]:List ax)),e0.1.2.2.2),e0.2)else none))else none)else none)else none)else none)else none)else(if 0≤(130:Int)then(if(130:Int)≤(d.1.length:Int)then(if(e0.1.2.2.2.length+((d.1.take d.1.length).drop ((130:Int).toNat)).length)*16≤af then(oH k (e0.1.1,e0.1.2.1,e0.1.2.2.1,(e0.1.2.2.2++((d.1.take d.1.length).drop ((130:Int).toNat))))).bind fun v4=>
 (bif (!v4)then some (((0:Int),([]:List az),([]:List ax),([]:List ByteArray)),false)else(jr k (e0.1.1,e0.1.2.1,e0.1.2.2.1,(e0.1.2.2.2++((d.1.take d.1.length).drop ((130:Int).toNat))))).bind fun v5=>
 iter k (eF k) (d.1,(),(),v5,(v5.length:Int),(0:Int),(e0.1.1,e0.1.2.1,e0.1.2.2.1,(e0.1.2.2.2++((d.1.take d.1.length).drop ((130:Int).toNat)))),e0.2))else none)else none)else none))
def jE(k:Nat)(self:_→Option (cQ×Bool))(d:((List ByteArray)×(Unit×(Unit×(Int×(cQ×cQ)))))):=
 let e0:=d.2.2.2.2
 (bif (decide (d.2.2.2.1<(4:Int)))then(if 0≤(0:Int)then(d.1[(0:Int).toNat]?).bind fun v0=>
 (if 0≤(aa .i64 ((8:Int)+(aa .i64 ((2:Int)*d.2.2.2.1))))then((v0[(aa .i64 ((8:Int)+(aa .i64 ((2:Int)*d.2.2.2.1)))).toNat]?.map fun v1=>(v1.toNat:Int))).bind fun v2=>
 (if 0≤(0:Int)then(d.1[(0:Int).toNat]?).bind fun v3=>
 (if 0≤(aa .i64 ((9:Int)+(aa .i64 ((2:Int)*d.2.2.2.1))))then((v3[(aa .i64 ((9:Int)+(aa .i64 ((2:Int)*d.2.2.2.1)))).toNat]?.map fun v1=>(v1.toNat:Int))).bind fun v4=>
 (if(e0.1.2.1.length+([((aa .i64 v2),(aa .i64 v4))]:List az).length)*16≤af then self (d.1,(),(),(aa .i64 (d.2.2.2.1+(1:Int))),(e0.1.1,(e0.1.2.1++([((aa .i64 v2),(aa .i64 v4))]:List az)),e0.1.2.2),e0.2)else none)else none)else none)else none)else none)else iter k (gd k) (d.1,(),(),(0:Int),e0.1,e0.2))
def BG(k:Nat)(x0:(List ByteArray)):Option (cQ×Bool):=
 (bif ((x0.length:Int) != (186:Int))then some (((0:Int),([]:List az),([]:List ax),([]:List ByteArray)),false)else(if 0≤(0:Int)then(x0[(0:Int).toNat]?).bind fun y1=>
 (bif ((y1.size:Int) != (32:Int))then some (((0:Int),([]:List az),([]:List ax),([]:List ByteArray)),false)else(if 0≤(0:Int)then(x0[(0:Int).toNat]?).bind fun y2=>
 (bg k (y2,(4:Int),(4:Int))).bind fun y3=>
 iter k (jE k) (x0,(),(),(0:Int),(y3.1,([]:List az),([]:List ax),([]:List ByteArray)),((0:Int),([]:List az),([]:List ax),([]:List ByteArray)))else none))else none))
theorem DJ(k:Nat)(x0:(List ByteArray)):kJ (k+1) (x0)=BG k x0:=by kernel_rfl
def gw(k:Nat)(self:_→Option (List ByteArray))(d:((List ByteArray)×((List ar)×az))):=
 (bif (decide (d.2.2.2<d.2.2.1))then(if 0≤d.2.2.2 then(d.2.1[d.2.2.2.toNat]?).bind fun v0=>
 (if 0≤v0.1 then(if v0.1<(d.1.length:Int)then(d.1[v0.1.toNat]?).bind fun v1=>
 self ((d.1.set v0.1.toNat v0.2),d.2.1,d.2.2.1,(aa .i64 (d.2.2.2+(1:Int))))else none)else none)else none)else some d.1)
def wY(k:Nat)(x0:bF):Option (List ByteArray):=
 (if(([]:List ByteArray).length+x0.1.length)*16≤af then iter k (gw k) ((([]:List ByteArray)++x0.1),x0.2,(x0.2.length:Int),(0:Int))else none)
theorem AD(k:Nat)(x0:bF):l5 (k+1) (x0)=wY k x0:=by kernel_rfl
def HC(k:Nat)(x0:bF):Option (cQ×Bool):=
 (il k x0).bind fun y1=>
 (bif (!y1)then some (((0:Int),([]:List az),([]:List ax),([]:List ByteArray)),false)else(bif ((x0.1.length:Int) != (186:Int))then some (((0:Int),([]:List az),([]:List ax),([]:List ByteArray)),false)else(l5 k x0).bind fun y2=>
 (kJ k y2).bind fun y3=>
 some (y3.1,y3.2)))
theorem ID(k:Nat)(x0:bF):tL (k+1) (x0)=HC k x0:=by kernel_rfl
def jQ(k:Nat)(self:_→Option Bool)(d:((List ByteArray)×((List ByteArray)×az))):=
 (bif (decide (d.2.2.2<d.2.2.1))then(if 0≤d.2.2.2 then(d.2.1[d.2.2.2.toNat]?).bind fun v0=>
 (if 0≤d.2.2.2 then(d.1[d.2.2.2.toNat]?).bind fun v1=>
 (bif (!(lB v0 v1))then some false else self (d.1,d.2.1,d.2.2.1,(aa .i64 (d.2.2.2+(1:Int)))))else none)else none)else some true)
def Bn(k:Nat)(x0:(List ByteArray))(x1:(List ByteArray)):Option Bool:=
 (bif ((x0.length:Int) != (x1.length:Int))then some false else iter k (jQ k) (x1,x0,(x0.length:Int),(0:Int)))
theorem Dg(k:Nat)(x0:(List ByteArray))(x1:(List ByteArray)):pj (k+1) (x0,x1)=Bn k x0 x1:=by kernel_rfl
def jg(k:Nat)(self:_→Option Bool)(d:(Unit×((List ax)×(Int×(Int×cQ))))):=
 (bif (decide (d.2.2.2.1<d.2.2.1))then(if 0≤d.2.2.2.1 then(d.2.1[d.2.2.2.1.toNat]?).bind fun v0=>
 (if 0≤d.2.2.2.1 then(d.2.2.2.2.2.2.1[d.2.2.2.1.toNat]?).bind fun v1=>
 (jx k (v0,v1)).bind fun v2=>
 (bif (!v2)then some false else self ((),d.2.1,d.2.2.1,(aa .i64 (d.2.2.2.1+(1:Int))),d.2.2.2.2))else none)else none)else some true)
def mB(k:Nat)(self:_→Option Bool)(d:(Unit×(Unit×((List az)×(Int×(Int×(cQ×cQ))))))):=
 let e0:=d.2.2.2.2
 (bif (decide (e0.1<d.2.2.2.1))then(if 0≤e0.1 then(d.2.2.1[e0.1.toNat]?).bind fun v0=>
 (if 0≤e0.1 then(e0.2.1.2.1[e0.1.toNat]?).bind fun v1=>
 (bif (!((v0.1==v1.1)&&(v0.2==v1.2)))then some false else self ((),(),d.2.2.1,d.2.2.2.1,(aa .i64 (e0.1+(1:Int))),e0.2.1,e0.2.2))else none)else none)else iter k (jg k) ((),e0.2.2.2.2.1,(e0.2.2.2.2.1.length:Int),(0:Int),e0.2.1))
def GG(k:Nat)(x0:cQ)(x1:cQ):Option Bool:=
 (bif (x0.1 != x1.1)then some false else(bif ((x0.2.1.length:Int) != (x1.2.1.length:Int))then some false else(bif ((x0.2.2.1.length:Int) != (x1.2.2.1.length:Int))then some false else(pj k (x0.2.2.2,x1.2.2.2)).bind fun y1=>
 (bif (!y1)then some false else iter k (mB k) ((),(),x0.2.1,(x0.2.1.length:Int),(0:Int),x1,x0)))))
theorem H0(k:Nat)(x0:cQ)(x1:cQ):tc (k+1) (x0,x1)=GG k x0 x1:=by kernel_rfl
def zH(k:Nat)(x0:aY):Option Bool:=
 (pq k x0.2.2).bind fun y1=>
 (bif (!y1)then some false else(aE k (x0.2.1,(0:Int),(1000000000:Int))).bind fun y2=>
 (bif (!y2)then some false else(il k x0.1).bind fun y3=>
 (bif (!y3)then some false else(bif (decide ((0:Int)<(x0.1.2.length:Int)))then some false else(lq k x0.1).bind fun y4=>
 (tL k x0.1).bind fun y5=>
 (bif (!y4.2.2)then(bif y5.2 then(tc k (y5.1,x0.2.2.1)).bind fun y6=>
 some y6 else some false)else some false)))))
theorem CB(k:Nat)(x0:aY):nG (k+1) (x0)=zH k x0:=by kernel_rfl
def dy(k:Nat)(self:_→Option (List ar))(d:((List ar)×((List ar)×az))):=
 (bif (decide (d.2.2.2<d.2.2.1))then(if 0≤d.2.2.2 then(d.2.1[d.2.2.2.toNat]?).bind fun v0=>
 (if(d.1.length+([((aa .i64 ((6:Int)+d.2.2.2)),v0.2)]:List ar).length)*24≤af then self ((d.1++([((aa .i64 ((6:Int)+d.2.2.2)),v0.2)]:List ar)),d.2.1,d.2.2.1,(aa .i64 (d.2.2.2+(1:Int))))else none)else none)else some d.1)
def cJ(k:Nat)(self:_→Option (List ar))(d:((List ar)×((List ar)×((List ByteArray)×az)))):=
 let e0:=d.2.2.2.2
 (bif (decide (e0<d.2.2.2.1))then(if 0≤e0 then(if e0<(d.2.2.1.length:Int)then(d.2.2.1[e0.toNat]?).bind fun v0=>
 (dE k (v0,(32:Int))).bind fun v1=>
 (if(d.2.1.length+([((aa .i64 ((2:Int)+e0)),v1)]:List ar).length)*24≤af then self (d.1,(d.2.1++([((aa .i64 ((2:Int)+e0)),v1)]:List ar)),d.2.2.1,d.2.2.2.1,(aa .i64 (e0+(1:Int))))else none)else none)else none)else iter k (dy k) (d.2.1,d.1,(d.1.length:Int),(0:Int)))
def eW(k:Nat)(self:_→Option (List ar))(d:((List ar)×((List ar)×(ByteArray×((List ar)×az))))):=
 let e0:=d.2.2.2.2
 (bif (decide (e0.2<e0.1))then(if 0≤e0.2 then(d.2.2.2.1[e0.2.toNat]?).bind fun v0=>
 (bif ((v0.2.size:Int) != (32:Int))then some ([]:List ar)else(aL k (v0.1,(2:Int))).bind fun v1=>
 (if d.2.2.1.size+v1.size≤9223372036854775807 then self (d.1,d.2.1,(d.2.2.1++v1),d.2.2.2.1,e0.1,(aa .i64 (e0.2+(1:Int))))else none))else none)else(kA k (d.2.2.1,(32:Int))).bind fun v2=>
 iter k (cJ k) (d.1,d.2.1,v2,(v2.length:Int),(0:Int)))
def qq(k:Nat)(x0:(List ar)):Option (List ar):=
 (pN k x0).bind fun y1=>
 (bif (!y1)then some ([]:List ar)else iter k (eW k) (x0,([]:List ar),(⟨#[]⟩:ByteArray),x0,(x0.length:Int),(0:Int)))
theorem vM(k:Nat)(x0:(List ar)):jq (k+1) (x0)=qq k x0:=by kernel_rfl
def BM(k:Nat):Option (List DStep):=
 (dE k ((⟨#[]⟩:ByteArray),(32:Int))).bind fun y1=>
 some ([(true,(0:Int),ByteArray.empty),(false,(1:Int),y1),(true,(0:Int),ByteArray.empty)]:List DStep)
theorem EN(k:Nat):o8 (k+1) ()=BM k:=by kernel_rfl
def fY(k:Nat)(self:_→Option (List DStep))(d:((List DStep)×((List ar)×az))):=
 (bif (decide (d.2.2.2<d.2.2.1))then(if 0≤d.2.2.2 then(d.2.1[d.2.2.2.toNat]?).bind fun v0=>
 (if(d.1.length+([(false,v0)]:List DStep).length)*32≤af then self ((d.1++([(false,v0)]:List DStep)),d.2.1,d.2.2.1,(aa .i64 (d.2.2.2+(1:Int))))else none)else none)else(o8 k ()).bind fun v1=>
 (if(d.1.length+v1.length)*32≤af then some (d.1++v1)else none))
def jI(k:Nat)(self:_→Option (List DStep))(d:((List ar)×((List DStep)×(ByteArray×((List ar)×az))))):=
 let e0:=d.2.2.2.2
 (bif (decide (e0.2<e0.1))then(if 0≤e0.2 then(if e0.2<(d.2.2.2.1.length:Int)then(d.2.2.2.1[e0.2.toNat]?).bind fun v0=>
 (if(d.2.1.length+([(false,v0)]:List DStep).length)*32≤af then self (d.1,(d.2.1++([(false,v0)]:List DStep)),d.2.2.1,d.2.2.2.1,e0.1,(aa .i64 (e0.2+(1:Int))))else none)else none)else none)else(if(d.2.1.length+([(true,(0:Int),ByteArray.empty),(false,(1:Int),d.2.2.1),(true,(0:Int),ByteArray.empty)]:List DStep).length)*32≤af then iter k (fY k) ((d.2.1++([(true,(0:Int),ByteArray.empty),(false,(1:Int),d.2.2.1),(true,(0:Int),ByteArray.empty)]:List DStep)),d.1,(d.1.length:Int),(0:Int))else none))
def BQ(k:Nat)(x0:Int)(x1:(List ar)):Option (List DStep):=
 (fR k (x0,x1)).bind fun y1=>
 (jq k x1).bind fun y2=>
 (bif (lB y1 (⟨#[]⟩:ByteArray))then some ([]:List DStep)else(bif ((y2.length:Int)==(0:Int))then some ([]:List DStep)else iter k (jI k) (x1,([]:List DStep),y1,y2,(y2.length:Int),(0:Int))))
theorem EY(k:Nat)(x0:Int)(x1:(List ar)):o5 (k+1) (x0,x1)=BQ k x0 x1:=by kernel_rfl
def gJ(k:Nat)(self:_→Option (List ar))(d:((List ByteArray)×((List ar)×((List ByteArray)×az)))):=
 let e0:=d.2.2.2.2
 (bif (decide (e0<d.2.2.2.1))then(if 0≤e0 then(d.2.2.1[e0.toNat]?).bind fun v0=>
 (aE k (e0,(1:Int),(69:Int))).bind fun v1=>
 (bif (!v1)then(if 0≤e0 then(d.1[e0.toNat]?).bind fun v2=>
 (bif (!(lB v0 v2))then(if(d.2.1.length+([(e0,v0)]:List ar).length)*24≤af then self (d.1,(d.2.1++([(e0,v0)]:List ar)),d.2.2.1,d.2.2.2.1,(aa .i64 (e0+(1:Int))))else none)else self (d.1,d.2.1,d.2.2.1,d.2.2.2.1,(aa .i64 (e0+(1:Int)))))else none)else self (d.1,d.2.1,d.2.2.1,d.2.2.2.1,(aa .i64 (e0+(1:Int)))))else none)else some d.2.1)
def vX(k:Nat)(x0:(List ByteArray))(x1:(List ByteArray)):Option (List ar):=
 (bif ((x0.length:Int) != (186:Int))then some ([]:List ar)else(bif ((x1.length:Int) != (186:Int))then some ([]:List ar)else iter k (gJ k) (x0,([]:List ar),x1,(x1.length:Int),(0:Int))))
theorem AH(k:Nat)(x0:(List ByteArray))(x1:(List ByteArray)):mu (k+1) (x0,x1)=vX k x0 x1:=by kernel_rfl
def BI(k:Nat)(x0:cQ)(x1:cQ)(x2:Int):Option (List DStep):=
 (jr k x0).bind fun y1=>
 (jr k x1).bind fun y2=>
 (mu k (y1,y2)).bind fun y3=>
 (o5 k (x2,y3)).bind fun y4=>
 some y4
theorem DF(k:Nat)(x0:cQ)(x1:cQ)(x2:Int):xp (k+1) (x0,x1,x2)=BI k x0 x1 x2:=by kernel_rfl
def uB(k:Nat)(x0:aY)(x1:cQ):Option (List DStep):=
 (nG k x0).bind fun y1=>
 (bif (!y1)then some ([]:List DStep)else(oH k x1).bind fun y2=>
 (bif (!y2)then some ([]:List DStep)else(xp k (x0.2.2.1,x1,(aa .i64 (x0.2.1+(1:Int))))).bind fun y3=>
 some y3))
theorem yJ(k:Nat)(x0:aY)(x1:cQ):ln (k+1) (x0,x1)=uB k x0 x1:=by kernel_rfl
def dO(k:Nat)(self:_→Option Bool)(d:((List Int)×((List Int)×az))):=
 (bif (decide (d.2.2.2<d.2.2.1))then(if 0≤d.2.2.2 then(d.1[d.2.2.2.toNat]?).bind fun v0=>
 (if 0≤d.2.2.2 then(d.2.1[d.2.2.2.toNat]?).bind fun v1=>
 (bif (v0 != v1)then some false else self (d.1,d.2.1,d.2.2.1,(aa .i64 (d.2.2.2+(1:Int)))))else none)else none)else some true)
def oJ(k:Nat)(x0:(List Int))(x1:(List Int)):Option Bool:=
 (bif ((x0.length:Int) != (x1.length:Int))then some false else iter k (dO k) (x0,x1,(x0.length:Int),(0:Int)))
theorem sU(k:Nat)(x0:(List Int))(x1:(List Int)):gE (k+1) (x0,x1)=oJ k x0 x1:=by kernel_rfl
def bB(k:Nat)(self:_→Option Bool)(d:((List av)×((List av)×az))):=
 (bif (decide (d.2.2.2<d.2.2.1))then(if 0≤d.2.2.2 then(d.1[d.2.2.2.toNat]?).bind fun v0=>
 (if 0≤d.2.2.2 then(d.2.1[d.2.2.2.toNat]?).bind fun v1=>
 (bif (!((v0.1==v1.1)&&((v0.2.1==v1.2.1)&&(v0.2.2==v1.2.2))))then some false else self (d.1,d.2.1,d.2.2.1,(aa .i64 (d.2.2.2+(1:Int)))))else none)else none)else some true)
def dw(k:Nat)(x0:(List av))(x1:(List av)):Option Bool:=
 (bif ((x0.length:Int) != (x1.length:Int))then some false else iter k (bB k) (x0,x1,(x0.length:Int),(0:Int)))
theorem fZ(k:Nat)(x0:(List av))(x1:(List av)):bG (k+1) (x0,x1)=dw k x0 x1:=by kernel_rfl
def zi(k:Nat)(x0:ax)(x1:ax):Option Bool:=
 (bif (x0.1==x1.1)then(bif (x0.2.1==x1.2.1)then(bif (x0.2.2.1==x1.2.2.1)then(bif (x0.2.2.2.1==x1.2.2.2.1)then(bif (x0.2.2.2.2.1==x1.2.2.2.2.1)then(bif (x0.2.2.2.2.2.1==x1.2.2.2.2.2.1)then(bif (x0.2.2.2.2.2.2.1==x1.2.2.2.2.2.2.1)then(gE k (x0.2.2.2.2.2.2.2.1,x1.2.2.2.2.2.2.2.1)).bind fun y1=>
 (bif y1 then(bG k (x0.2.2.2.2.2.2.2.2.1,x1.2.2.2.2.2.2.2.2.1)).bind fun y2=>
 (bif y2 then(bG k (x0.2.2.2.2.2.2.2.2.2,x1.2.2.2.2.2.2.2.2.2)).bind fun y3=>
 some y3 else some false)else some false)else some false)else some false)else some false)else some false)else some false)else some false)else some false)
theorem CR(k:Nat)(x0:ax)(x1:ax):jX (k+1) (x0,x1)=zi k x0 x1:=by kernel_rfl
def dQ(k:Nat)(self:_→Option Int)(d:((List Int)×av)):=
 (bif (decide (d.2.2.2<d.2.2.1))then(if 0≤d.2.2.2 then(d.1[d.2.2.2.toNat]?).bind fun v0=>
 (bif (d.2.1==v0)then some d.2.2.2 else self (d.1,d.2.1,d.2.2.1,(aa .i64 (d.2.2.2+(1:Int)))))else none)else some (-1:Int))
def oF(k:Nat)(x0:(List Int))(x1:Int):Option Int:=
 iter k (dQ k) (x0,x1,(x0.length:Int),(0:Int))
theorem th(k:Nat)(x0:(List Int))(x1:Int):gF (k+1) (x0,x1)=oF k x0 x1:=by kernel_rfl
def lE(k:Nat)(x0:(List Int))(x1:Int):Option Bool:=
 (gF k (x0,x1)).bind fun y1=>
 some (decide ((0:Int)≤y1))
theorem pO(k:Nat)(x0:(List Int))(x1:Int):e9 (k+1) (x0,x1)=lE k x0 x1:=by kernel_rfl
def Hr(k:Nat)(x0:Int):Option Bool:=
 (bif (decide ((0:Int)≤x0))then some (decide (x0<(4:Int)))else some false)
theorem Iq(k:Nat)(x0:Int):c7 (k+1) (x0)=Hr k x0:=by kernel_rfl
def Hy(k:Nat)(x0:Int):Option Bool:=
 (bif (decide ((0:Int)≤x0))then some (decide (x0≤(2047:Int)))else some false)
theorem HX(k:Nat)(x0:Int):sW (k+1) (x0)=Hy k x0:=by kernel_rfl
def rQ(k:Nat)(x0:Int):Option Int:=
 (bif (decide (x0≤(0:Int)))then some (0:Int)else(if((32:Int):Int)≠0 then some (aa .i64 ((aa .i64 ((aa .i64 (x0-(1:Int))).tdiv (32:Int)))+(1:Int)))else none))
theorem xq(k:Nat)(x0:Int):fM (k+1) (x0)=rQ k x0:=by kernel_rfl
def ix(k:Nat)(self:_→Option Int)(d:(Int×((List Int)×az))):=
 (bif (decide (d.2.2.2<d.2.2.1))then(if 0≤d.2.2.2 then(d.2.1[d.2.2.2.toNat]?).bind fun v0=>
 (bif (v0 != d.1)then some v0 else self (d.1,d.2.1,d.2.2.1,(aa .i64 (d.2.2.2+(1:Int)))))else none)else some d.1)
def KM(k:Nat)(x0:(List Int)):Option Int:=
 iter k (ix k) ((0:Int),x0,(x0.length:Int),(0:Int))
theorem JP(k:Nat)(x0:(List Int)):vC (k+1) (x0)=KM k x0:=by kernel_rfl
def cmp_isNaN_int(k:Nat)(x0:Int):Option Bool:=
 some (x0 != x0)
theorem DP(k:Nat)(x0:Int):kK (k+1) (x0)=cmp_isNaN_int k x0:=by kernel_rfl
def cmp_Compare_int(k:Nat)(x0:Int)(x1:Int):Option Int:=
 (kK k x0).bind fun y1=>
 (kK k x1).bind fun y2=>
 (bif y1 then(bif y2 then some (0:Int)else some (-1:Int))else(bif y2 then some (1:Int)else(bif (decide (x0<x1))then some (-1:Int)else(bif (decide (x1<x0))then some (1:Int)else some (0:Int)))))
theorem Aq(k:Nat)(x0:Int)(x1:Int):iO (k+1) (x0,x1)=cmp_Compare_int k x0 x1:=by kernel_rfl
def nY(k:Nat)(self:_→Option Bool)(d:((List av)×((List av)×az))):=
 (bif (decide (d.2.2.2<d.2.2.1))then(if 0≤d.2.2.2 then(d.2.1[d.2.2.2.toNat]?).bind fun v0=>
 (bif (decide (v0.2.2<(0:Int)))then some false else(bif (decide ((7:Int)<v0.2.2))then some false else(rK (R:=Bool) ((bif (v0.1==(1:Int))then(bif (v0.1==(1:Int))then(c7 k v0.2.1).bind fun v1=>
 (bif (!v1)then((some false).map .inr)else some (.inl (d.1,d.2.2.2,(),d.2.1,d.2.2.1,d.2.2.2,v0)))else(bif (v0.1==(3:Int))then(bif (v0.2.1 != (0:Int))then((some false).map .inr)else some (.inl (d.1,d.2.2.2,(),d.2.1,d.2.2.1,d.2.2.2,v0)))else((some false).map .inr)))else(bif (v0.1==(2:Int))then(c7 k v0.2.1).bind fun v2=>
 (bif (!v2)then((some false).map .inr)else some (.inl (d.1,d.2.2.2,(),d.2.1,d.2.2.1,d.2.2.2,v0)))else(bif (v0.1==(3:Int))then(bif (v0.2.1 != (0:Int))then((some false).map .inr)else some (.inl (d.1,d.2.2.2,(),d.2.1,d.2.2.1,d.2.2.2,v0)))else((some false).map .inr))))) fun(v3:((List av)×(Int×(Unit×((List av)×(Int×(Int×av)))))))=>let e0:=v3.2.2.2.2;(bif (decide ((0:Int)<v3.2.1))then(if 0≤(aa .i64 (v3.2.1-(1:Int)))then(v3.1[(aa .i64 (v3.2.1-(1:Int))).toNat]?).bind fun v4=>
 (iO k (v4.1,e0.2.2.1)).bind fun v5=>
 (if 0≤(aa .i64 (v3.2.1-(1:Int)))then(v3.1[(aa .i64 (v3.2.1-(1:Int))).toNat]?).bind fun v6=>
 (iO k (v6.2.1,e0.2.2.2.1)).bind fun v7=>
 (vC k ([v5,v7]:List Int)).bind fun v8=>
 (bif (decide ((0:Int)≤v8))then some false else self (v3.1,v3.2.2.2.1,e0.1,(aa .i64 (e0.2.1+(1:Int)))))else none)else none)else self (v3.1,v3.2.2.2.1,e0.1,(aa .i64 (e0.2.1+(1:Int))))))))else none)else(bif ((d.1.length:Int)==(0:Int))then some true else(if 0≤(aa .i64 ((d.1.length:Int)-(1:Int)))then(d.1[(aa .i64 ((d.1.length:Int)-(1:Int))).toNat]?).bind fun v9=>
 some (v9.1==(3:Int))else none)))
def KP(k:Nat)(x0:(List av)):Option Bool:=
 (bif (decide ((6:Int)<(x0.length:Int)))then some false else iter k (nY k) (x0,x0,(x0.length:Int),(0:Int)))
theorem JY(k:Nat)(x0:(List av)):l4 (k+1) (x0)=KP k x0:=by kernel_rfl
def kX(k:Nat)(self:_→Option Bool)(d:(Unit×((List Int)×(Int×(Int×ax))))):=
 let e0:=d.2.2.2.2
 (bif (decide (d.2.2.2.1<d.2.2.1))then(if 0≤d.2.2.2.1 then(d.2.1[d.2.2.2.1.toNat]?).bind fun v0=>
 (bif (v0 != (-1:Int))then(bif (decide (v0<(0:Int)))then some false else(bif (decide ((999:Int)<v0))then some false else(if 0≤d.2.2.2.1 then(if d.2.2.2.1≤(e0.2.2.2.2.2.2.2.1.length:Int)then(e9 k (((e0.2.2.2.2.2.2.2.1.take d.2.2.2.1.toNat).drop 0),v0)).bind fun v1=>
 (bif v1 then some false else self ((),d.2.1,d.2.2.1,(aa .i64 (d.2.2.2.1+(1:Int))),e0))else none)else none)))else self ((),d.2.1,d.2.2.1,(aa .i64 (d.2.2.2.1+(1:Int))),e0))else none)else(bif (e0.1==(2:Int))then some true else(bif ((e0.2.2.2.2.2.2.2.2.2.length:Int)==(0:Int))then some ((intBits .and .i64 e0.2.1 (512:Int))==(0:Int))else some false)))
def Du(k:Nat)(x0:ax):Option Bool:=
 (rK (R:=Bool) ((bif (x0.1==(0:Int))then(jX k (x0,((0:Int),(0:Int),(0:Int),(0:Int),(0:Int),(0:Int),(0:Int),([]:List Int),([]:List av),([]:List av)))).bind fun y2=>
 ((some y2).map .inr)else(bif (x0.1==(1:Int))then(bif (x0.1==(1:Int))then some (.inl ((),x0))else((some false).map .inr))else(bif (x0.1==(2:Int))then some (.inl ((),x0))else((some false).map .inr))))) fun(d1:(Unit×ax))=>let e0:=d1.2.2.2.2;let e1:=e0.2.2.2.2;(sW k d1.2.2.1).bind fun y3=>
 (bif (!y3)then some false else(c7 k d1.2.2.2.1).bind fun y4=>
 (bif (!y4)then some false else(c7 k e0.1).bind fun y5=>
 (bif (!y5)then some false else(bif (decide (e0.2.1<(0:Int)))then some false else(bif (decide ((1000:Int)<e0.2.1))then some false else(bif (decide (e0.2.2.1<(0:Int)))then some false else(bif (decide ((256:Int)<e0.2.2.1))then some false else(bif (decide (e0.2.2.2.1<(0:Int)))then some false else(bif (decide ((1000000000:Int)<e0.2.2.2.1))then some false else(fM k e0.2.2.1).bind fun y6=>
 (bif ((e1.1.length:Int) != y6)then some false else(l4 k e1.2.1).bind fun y7=>
 (bif (!y7)then some false else(l4 k e1.2.2).bind fun y8=>
 (bif (!y8)then some false else iter k (kX k) ((),e1.1,(e1.1.length:Int),(0:Int),d1.2))))))))))))))
theorem Gs(k:Nat)(x0:ax):l9 (k+1) (x0)=Du k x0:=by kernel_rfl
def wA(k:Nat)(x0:Int):Option Int:=
 (bif (decide (x0<(0:Int)))then some (-1:Int)else(bif (decide ((56:Int)≤x0))then some (-1:Int)else(if((14:Int):Int)≠0 then some (aa .i64 (x0.tdiv (14:Int)))else none)))
theorem Az(k:Nat)(x0:Int):mC (k+1) (x0)=wA k x0:=by kernel_rfl
def jz(k:Nat)(self:_→Option Bool)(d:(ByteArray×az)):=
 (bif (decide (d.2.2<d.2.1))then(if 0≤d.2.2 then((d.1[d.2.2.toNat]?.map fun v0=>(v0.toNat:Int))).bind fun v1=>
 (bif (v1 != (0:Int))then some false else self (d.1,d.2.1,(aa .i64 (d.2.2+(1:Int)))))else none)else some true)
def AV(k:Nat)(x0:ByteArray):Option Bool:=
 iter k (jz k) (x0,(x0.size:Int),(0:Int))
theorem Ew(k:Nat)(x0:ByteArray):kS (k+1) (x0)=AV k x0:=by kernel_rfl
def mP(k:Nat)(a0:_→Option Bool)(self:_→Option Bool)(d:(Unit×(Unit×(Unit×((List ax)×(Int×(Int×((List Int)×(Int×(Int×(ax×((List Bool)×cQ)))))))))))):=
 let e0:=d.2.2.2.2
 let e1:=e0.2.2.2.2
 (bif (decide (e1.1<e0.2.2.2.1))then(if 0≤e1.1 then(e0.2.2.1[e1.1.toNat]?).bind fun v0=>
 (bif (v0==(-1:Int))then self ((),(),(),d.2.2.2.1,e0.1,e0.2.1,e0.2.2.1,e0.2.2.2.1,(aa .i64 (e1.1+(1:Int))),e1.2.1,e1.2.2.1,e1.2.2.2)else(mC k v0).bind fun v1=>
 (bif (v1 != e1.2.1.2.2.1)then some false else(if 0≤v0 then(if v0<(56:Int)then(e1.2.2.1[v0.toNat]?).bind fun v2=>
 (bif v2 then some false else(if 0≤v0 then(if v0<(56:Int)then(e1.2.2.1[v0.toNat]?).bind fun v3=>
 (bif (decide ((aa .i64 (e1.2.1.2.2.2.2.2.1-(aa .i64 (e1.1*(32:Int)))))<(32:Int)))then(if 0≤v0 then(e1.2.2.2.2.2.2[v0.toNat]?).bind fun v4=>
 (if 0≤(aa .i64 (e1.2.1.2.2.2.2.2.1-(aa .i64 (e1.1*(32:Int)))))then(if(aa .i64 (e1.2.1.2.2.2.2.2.1-(aa .i64 (e1.1*(32:Int)))))≤(v4.size:Int)then(kS k (v4.extract ((aa .i64 (e1.2.1.2.2.2.2.2.1-(aa .i64 (e1.1*(32:Int))))).toNat) v4.size)).bind fun v5=>
 (bif (!v5)then some false else self ((),(),(),d.2.2.2.1,e0.1,e0.2.1,e0.2.2.1,e0.2.2.2.1,(aa .i64 (e1.1+(1:Int))),e1.2.1,(e1.2.2.1.set v0.toNat true),e1.2.2.2))else none)else none)else none)else self ((),(),(),d.2.2.2.1,e0.1,e0.2.1,e0.2.2.1,e0.2.2.2.1,(aa .i64 (e1.1+(1:Int))),e1.2.1,(e1.2.2.1.set v0.toNat true),e1.2.2.2))else none)else none))else none)else none)))else none)else a0 ((),(),d.2.2.2.1,e0.1,(aa .i64 (e0.2.1+(1:Int))),e1.2.2.1,e1.2.2.2))
def jW(k:Nat)(self:_→Option Bool)(d:(Unit×(Unit×((List ByteArray)×(Int×(Int×((List Bool)×cQ))))))):=
 let e0:=d.2.2.2.2
 (bif (decide (e0.1<d.2.2.2.1))then(if 0≤e0.1 then(d.2.2.1[e0.1.toNat]?).bind fun v0=>
 (if 0≤e0.1 then(if e0.1<(56:Int)then(e0.2.1[e0.1.toNat]?).bind fun v1=>
 (bif (!v1)then(kS k v0).bind fun v2=>
 (bif (!v2)then some false else self ((),(),d.2.2.1,d.2.2.2.1,(aa .i64 (e0.1+(1:Int))),e0.2.1,e0.2.2))else self ((),(),d.2.2.1,d.2.2.2.1,(aa .i64 (e0.1+(1:Int))),e0.2.1,e0.2.2))else none)else none)else none)else(if 0≤(0:Int)then(e0.2.2.2.2.1[(0:Int).toNat]?).bind fun v3=>
 some (v3.1==(2:Int))else none))
def jV(k:Nat)(self:_→Option Bool)(d:(Unit×(Unit×((List ax)×(Int×(Int×((List Bool)×cQ))))))):=
 let e0:=d.2.2.2.2
 (bif (decide (e0.1<d.2.2.2.1))then(if 0≤e0.1 then(d.2.2.1[e0.1.toNat]?).bind fun v0=>
 (l9 k v0).bind fun v1=>
 (bif (!v1)then some false else iter k (mP k self) ((),(),(),d.2.2.1,d.2.2.2.1,e0.1,v0.2.2.2.2.2.2.2.1,(v0.2.2.2.2.2.2.2.1.length:Int),(0:Int),v0,e0.2.1,e0.2.2))else none)else iter k (jW k) ((),(),e0.2.2.2.2.2,(e0.2.2.2.2.2.length:Int),(0:Int),e0.2.1,e0.2.2))
def mS(k:Nat)(self:_→Option Bool)(d:(Unit×((List ByteArray)×(Int×(Int×cQ))))):=
 let e0:=d.2.2.2.2
 (bif (decide (d.2.2.2.1<d.2.2.1))then(if 0≤d.2.2.2.1 then(d.2.1[d.2.2.2.1.toNat]?).bind fun v0=>
 (bif ((v0.size:Int) != (32:Int))then some false else self ((),d.2.1,d.2.2.1,(aa .i64 (d.2.2.2.1+(1:Int))),e0))else none)else iter k (jV k) ((),(),e0.2.2.1,(e0.2.2.1.length:Int),(0:Int),(List.replicate 56 false),e0))
def pM(k:Nat)(self:_→Option Bool)(d:(Unit×((List az)×(Int×(Int×cQ))))):=
 let e0:=d.2.2.2.2
 (bif (decide (d.2.2.2.1<d.2.2.1))then(if 0≤d.2.2.2.1 then(d.2.1[d.2.2.2.1.toNat]?).bind fun v0=>
 (bif (decide (v0.1<(0:Int)))then some false else(bif (decide ((5:Int)<v0.1))then some false else(bif (decide (v0.2<(0:Int)))then some false else(bif (decide ((14:Int)<v0.2))then some false else self ((),d.2.1,d.2.2.1,(aa .i64 (d.2.2.2.1+(1:Int))),e0)))))else none)else iter k (mS k) ((),e0.2.2.2,(e0.2.2.2.length:Int),(0:Int),e0))
def L3(k:Nat)(x0:cQ):Option Bool:=
 (bif (decide (x0.1<(0:Int)))then some false else(bif (decide ((1000000000:Int)<x0.1))then some false else(bif ((x0.2.1.length:Int) != (4:Int))then some false else(bif ((x0.2.2.1.length:Int) != (20:Int))then some false else(bif ((x0.2.2.2.length:Int) != (56:Int))then some false else iter k (pM k) ((),x0.2.1,(x0.2.1.length:Int),(0:Int),x0))))))
theorem Lj(k:Nat)(x0:cQ):jc (k+1) (x0)=L3 k x0:=by kernel_rfl
def mn(k:Nat)(self:_→Option Bool)(d:(Unit×((List Int)×(Int×(Int×fG))))):=
 let e0:=d.2.2.2.2
 (bif (decide (d.2.2.2.1<d.2.2.1))then(if 0≤d.2.2.2.1 then(d.2.1[d.2.2.2.1.toNat]?).bind fun v0=>
 (c7 k v0).bind fun v1=>
 (bif (!v1)then some false else(bif (decide ((0:Int)<d.2.2.2.1))then(if 0≤(aa .i64 (d.2.2.2.1-(1:Int)))then(e0.2.2[(aa .i64 (d.2.2.2.1-(1:Int))).toNat]?).bind fun v2=>
 (bif (decide (v0≤v2))then some false else self ((),d.2.1,d.2.2.1,(aa .i64 (d.2.2.2.1+(1:Int))),e0))else none)else self ((),d.2.1,d.2.2.1,(aa .i64 (d.2.2.2.1+(1:Int))),e0)))else none)else(c7 k e0.1).bind fun v3=>
 (bif v3 then(c7 k e0.2.1).bind fun v4=>
 some v4 else some false))
def GQ(k:Nat)(x0:fG):Option Bool:=
 iter k (mn k) ((),x0.2.2,(x0.2.2.length:Int),(0:Int),x0)
theorem Ia(k:Nat)(x0:fG):s9 (k+1) (x0)=GQ k x0:=by kernel_rfl
def GA(k:Nat)(x0:(Option cQ))(x1:Int):Option Bool:=
 (bif (decide ((0:Int)≤x1))then(bif (decide (x1<(20:Int)))then(x0).bind fun y1=>
 (if 0≤x1 then(y1.2.2.1[x1.toNat]?).bind fun y2=>
 some (y2.1 != (0:Int))else none)else some false)else some false)
theorem HU(k:Nat)(x0:(Option cQ))(x1:Int):oc (k+1) (x0,x1)=GA k x0 x1:=by kernel_rfl
def A9(k:Nat)(x0:(Option cQ))(x1:Int):Option Bool:=
 (oc k (x0,x1)).bind fun y1=>
 (bif y1 then(x0).bind fun y2=>
 (if 0≤x1 then(y2.2.2.1[x1.toNat]?).bind fun y3=>
 some (y3.1==(2:Int))else none)else some false)
theorem DD(k:Nat)(x0:(Option cQ))(x1:Int):px (k+1) (x0,x1)=A9 k x0 x1:=by kernel_rfl
def eT(k:Nat)(a0:_→Option Bool)(self:_→Option Bool)(d:(Int×((List bL)×(Int×(Int×((List av)×az)))))):=
 let e0:=d.2.2.2.2
 (bif (decide (e0.2.2<e0.2.1))then(if 0≤e0.2.2 then(e0.1[e0.2.2.toNat]?).bind fun v0=>
 (bif (v0.2.2 != (0:Int))then(bif (v0.1==d.1)then some true else self (d.1,d.2.1,d.2.2.1,d.2.2.2.1,e0.1,e0.2.1,(aa .i64 (e0.2.2+(1:Int)))))else self (d.1,d.2.1,d.2.2.1,d.2.2.2.1,e0.1,e0.2.1,(aa .i64 (e0.2.2+(1:Int)))))else none)else a0 (d.1,d.2.1,d.2.2.1,(aa .i64 (d.2.2.2.1+(1:Int)))))
def eS(k:Nat)(self:_→Option Bool)(d:(Int×((List bL)×az))):=
 (bif (decide (d.2.2.2<d.2.2.1))then(if 0≤d.2.2.2 then(d.2.1[d.2.2.2.toNat]?).bind fun v0=>
 iter k (eT k self) (d.1,d.2.1,d.2.2.1,d.2.2.2,v0.2,(v0.2.length:Int),(0:Int))else none)else some false)
def qG(k:Nat)(x0:(Option bx))(x1:Int):Option Bool:=
 (x0).bind fun y1=>
 iter k (eS k) (x1,y1.2,(y1.2.length:Int),(0:Int))
theorem vO(k:Nat)(x0:(Option bx))(x1:Int):je (k+1) (x0,x1)=qG k x0 x1:=by kernel_rfl
def jS(k:Nat)(a0:_→Option Bool)(self:_→Option Bool)(d:(Unit×((List bL)×(Int×(Int×((List av)×(Int×(Int×bx)))))))):=
 let e0:=d.2.2.2.2
 (bif (decide (e0.2.2.1<e0.2.1))then(if 0≤e0.2.2.1 then(e0.1[e0.2.2.1.toNat]?).bind fun v0=>
 (bif ((v0.1==(0:Int))&&((v0.2.1==(0:Int))&&(v0.2.2==(0:Int))))then self ((),d.2.1,d.2.2.1,d.2.2.2.1,e0.1,e0.2.1,(aa .i64 (e0.2.2.1+(1:Int))),e0.2.2.2)else(bif (decide (v0.2.2<(1:Int)))then some false else(bif (decide ((63:Int)<v0.2.2))then some false else(bif ((intBits .and .i64 v0.2.2 (6:Int))==(0:Int))then some false else(oc k ((some e0.2.2.2.1),v0.1)).bind fun v1=>
 (bif (!v1)then some false else(px k ((some e0.2.2.2.1),v0.1)).bind fun v2=>
 (bif v2 then some false else(bif (decide (v0.2.1<(0:Int)))then some false else(bif (decide ((1000000:Int)<v0.2.1))then some false else self ((),d.2.1,d.2.2.1,d.2.2.2.1,e0.1,e0.2.1,(aa .i64 (e0.2.2.1+(1:Int))),e0.2.2.2)))))))))else none)else a0 ((),d.2.1,d.2.2.1,(aa .i64 (d.2.2.2.1+(1:Int))),e0.2.2.2))
def fU(k:Nat)(self:_→Option Bool)(d:(Unit×((List ax)×(Int×(Int×bx))))):=
 let e0:=d.2.2.2.2
 (bif (decide (d.2.2.2.1<d.2.2.1))then(if 0≤d.2.2.2.1 then(d.2.1[d.2.2.2.1.toNat]?).bind fun v0=>
 (bif (v0.1==(1:Int))then(bif (v0.2.2.2.2.1==(0:Int))then(je k ((some e0),d.2.2.2.1)).bind fun v1=>
 (bif (!v1)then some false else self ((),d.2.1,d.2.2.1,(aa .i64 (d.2.2.2.1+(1:Int))),e0))else self ((),d.2.1,d.2.2.1,(aa .i64 (d.2.2.2.1+(1:Int))),e0))else self ((),d.2.1,d.2.2.1,(aa .i64 (d.2.2.2.1+(1:Int))),e0))else none)else some true)
def jL(k:Nat)(self:_→Option Bool)(d:(Unit×((List bL)×(Int×(Int×bx))))):=
 let e0:=d.2.2.2.2
 (bif (decide (d.2.2.2.1<d.2.2.1))then(if 0≤d.2.2.2.1 then(d.2.1[d.2.2.2.1.toNat]?).bind fun v0=>
 (s9 k v0.1).bind fun v1=>
 (bif (!v1)then some false else(bif ((v0.2.length:Int) != (3:Int))then some false else iter k (jS k self) ((),d.2.1,d.2.2.1,d.2.2.2.1,v0.2,(v0.2.length:Int),(0:Int),e0)))else none)else iter k (fU k) ((),e0.1.2.2.1,(e0.1.2.2.1.length:Int),(0:Int),e0))
def BA(k:Nat)(x0:bx):Option Bool:=
 (jc k x0.1).bind fun y1=>
 (bif (!y1)then some false else(bif ((x0.2.length:Int) != (4:Int))then some false else iter k (jL k) ((),x0.2,(x0.2.length:Int),(0:Int),x0)))
theorem Dn(k:Nat)(x0:bx):oR (k+1) (x0)=BA k x0:=by kernel_rfl
def jw(k:Nat)(self:_→Option Bool)(d:(Unit×((List ar)×(Int×(Int×bF))))):=
 (bif (decide (d.2.2.2.1<d.2.2.1))then(if 0≤d.2.2.2.1 then(d.2.1[d.2.2.2.1.toNat]?).bind fun v0=>
 (bif (decide (v0.1<(0:Int)))then some false else(bif (decide ((d.2.2.2.2.1.length:Int)≤v0.1))then some false else(bif ((v0.2.size:Int) != (32:Int))then some false else self ((),d.2.1,d.2.2.1,(aa .i64 (d.2.2.2.1+(1:Int))),d.2.2.2.2))))else none)else some true)
def l7(k:Nat)(self:_→Option Bool)(d:(Unit×((List ByteArray)×(Int×(Int×bF))))):=
 let e0:=d.2.2.2.2
 (bif (decide (d.2.2.2.1<d.2.2.1))then(if 0≤d.2.2.2.1 then(d.2.1[d.2.2.2.1.toNat]?).bind fun v0=>
 (bif ((v0.size:Int) != (32:Int))then some false else self ((),d.2.1,d.2.2.1,(aa .i64 (d.2.2.2.1+(1:Int))),e0))else none)else iter k (jw k) ((),e0.2,(e0.2.length:Int),(0:Int),e0))
def HN(k:Nat)(x0:bF):Option Bool:=
 (bif (decide ((400:Int)<(x0.1.length:Int)))then some false else(bif (decide ((400:Int)<(x0.2.length:Int)))then some false else iter k (l7 k) ((),x0.1,(x0.1.length:Int),(0:Int),x0)))
theorem Iv(k:Nat)(x0:bF):iu (k+1) (x0)=HN k x0:=by kernel_rfl
def iU(k:Nat)(self:_→Option ByteArray)(d:((Option bF)×az)):=
 (bif (decide ((0:Int)≤d.2.2))then(d.1).bind fun v0=>
 (if 0≤d.2.2 then(v0.2[d.2.2.toNat]?).bind fun v1=>
 (bif (v1.1==d.2.1)then(d.1).bind fun v2=>
 (if 0≤d.2.2 then(v2.2[d.2.2.toNat]?).bind fun v3=>
 some v3.2 else none)else self (d.1,d.2.1,(aa .i64 (d.2.2-(1:Int)))))else none)else(d.1).bind fun v4=>
 (if 0≤d.2.1 then(v4.1[d.2.1.toNat]?).bind fun v5=>
 some v5 else none))
def xG(k:Nat)(x0:(Option bF))(x1:Int):Option ByteArray:=
 (x0).bind fun y1=>
 iter k (iU k) (x0,x1,(aa .i64 ((y1.2.length:Int)-(1:Int))))
theorem Ci(k:Nat)(x0:(Option bF))(x1:Int):ey (k+1) (x0,x1)=xG k x0 x1:=by kernel_rfl
def iJ(k:Nat)(self:_→Option (Int×Bool))(d:(ByteArray×(Int×av))):=
 let e0:=d.2.2.2.2
 (bif (decide (e0<d.2.2.2.1))then(if 0≤(8:Int)then(if 0≤(aa .i64 (d.2.1+e0))then((d.1[(aa .i64 (d.2.1+e0)).toNat]?.map fun v0=>(v0.toNat:Int))).bind fun v1=>
 self (d.1,d.2.1,(intBits .or .i64 (aa .i64 (d.2.2.1*2 ^(min (8:Int).toNat (IntKind.bits .i64)))) (aa .i64 v1)),d.2.2.2.1,(aa .i64 (e0+(1:Int))))else none)else none)else some (d.2.2.1,true))
def yk(k:Nat)(x0:ByteArray)(x1:Int)(x2:Int):Option (Int×Bool):=
 (bif (decide (x2<(1:Int)))then some ((0:Int),false)else(bif (decide ((6:Int)<x2))then some ((0:Int),false)else(bif (decide (x1<(0:Int)))then some ((0:Int),false)else(bif (decide ((aa .i64 ((x0.size:Int)-x2))<x1))then some ((0:Int),false)else iter k (iJ k) (x0,x1,(0:Int),x2,(0:Int))))))
theorem CP(k:Nat)(x0:ByteArray)(x1:Int)(x2:Int):aU (k+1) (x0,x1,x2)=yk k x0 x1 x2:=by kernel_rfl
def mY(k:Nat)(self:_→Option Bool)(d:((List ar)×((List ar)×az))):=
 (bif (decide (d.2.2.2<d.2.2.1))then(if 0≤d.2.2.2 then(d.2.1[d.2.2.2.toNat]?).bind fun v0=>
 (bif (decide (v0.1<(0:Int)))then some false else(bif (decide ((400:Int)≤v0.1))then some false else self (d.1,d.2.1,d.2.2.1,(aa .i64 (d.2.2.2+(1:Int))))))else none)else(bif (decide ((1:Int)≤(d.1.length:Int)))then some (decide ((d.1.length:Int)≤(64:Int)))else some false))
def G3(k:Nat)(x0:(List ar)):Option Bool:=
 iter k (mY k) (x0,x0,(x0.length:Int),(0:Int))
theorem HY(k:Nat)(x0:(List ar)):nS (k+1) (x0)=G3 k x0:=by kernel_rfl
def iQ(k:Nat)(self:_→Option ByteArray)(d:(Int×((List Int)×Int))):=
 (bif (decide ((0:Int)≤d.2.2))then(if 0≤d.2.2 then(if d.2.2<(d.2.1.length:Int)then(d.2.1[d.2.2.toNat]?).bind fun v0=>
 (if 0≤(8:Int)then self ((d.1.fdiv (2 ^(min (8:Int).toNat (IntKind.bits .i64)))),(d.2.1.set d.2.2.toNat (aa .u8 d.1)),(aa .i64 (d.2.2-(1:Int))))else none)else none)else none)else some (ofBytes d.2.1))
def xJ(k:Nat)(x0:Int)(x1:Int):Option ByteArray:=
 (bif (decide (x1<(1:Int)))then some (⟨#[]⟩:ByteArray)else(bif (decide ((6:Int)<x1))then some (⟨#[]⟩:ByteArray)else(bif (decide (x0<(0:Int)))then some (⟨#[]⟩:ByteArray)else(if 0≤(aa .i64 ((8:Int)*x1))then(bif (decide ((aa .i64 ((1:Int)*2 ^(min (aa .i64 ((8:Int)*x1)).toNat (IntKind.bits .i64))))≤x0))then some (⟨#[]⟩:ByteArray)else(if 0≤x1 then(if x1≤x1 then(if x1*1≤(af:Int)then iter k (iQ k) (x0,(List.replicate x1.toNat (0:Int)),(aa .i64 (x1-(1:Int))))else none)else none)else none))else none))))
theorem B4(k:Nat)(x0:Int)(x1:Int):aK (k+1) (x0,x1)=xJ k x0 x1:=by kernel_rfl
def Jh(k:Nat)(x0:ByteArray)(x1:Int):Option ByteArray:=
 (bif (decide (x1≤(x0.size:Int)))then some x0 else(bif (decide ((100000:Int)<x1))then some (⟨#[]⟩:ByteArray)else(uN k ((⟨#[0]⟩:ByteArray),(aa .i64 (x1-(x0.size:Int))))).bind fun y1=>
 (if x0.size+y1.size≤9223372036854775807 then some (x0++y1)else none)))
theorem KC(k:Nat)(x0:ByteArray)(x1:Int):gv (k+1) (x0,x1)=Jh k x0 x1:=by kernel_rfl
def gG(k:Nat)(self:_→Option Int)(d:(ByteArray×(Int×av))):=
 let e0:=d.2.2.2.2
 (bif (decide (e0<d.2.2.2.1))then(if 0≤e0 then((d.1[e0.toNat]?.map fun v0=>(v0.toNat:Int))).bind fun v1=>
 (if((65521:Int):Int)≠0 then(if((65521:Int):Int)≠0 then self (d.1,((aa .i64 (d.2.1+(aa .i64 v1))).tmod (65521:Int)),((aa .i64 (d.2.2.1+((aa .i64 (d.2.1+(aa .i64 v1))).tmod (65521:Int)))).tmod (65521:Int)),d.2.2.2.1,(aa .i64 (e0+(1:Int))))else none)else none)else none)else some (aa .i64 ((aa .i64 (d.2.2.1*(65536:Int)))+d.2.1)))
def wF(k:Nat)(x0:ByteArray):Option Int:=
 iter k (gG k) (x0,(1:Int),(0:Int),(x0.size:Int),(0:Int))
theorem AG(k:Nat)(x0:ByteArray):l8 (k+1) (x0)=wF k x0:=by kernel_rfl
def fm(k:Nat)(self:_→Option ByteArray)(d:(Int×((List ar)×(ByteArray×((List ar)×az))))):=
 let e0:=d.2.2.2.2
 (bif (decide (e0.2<e0.1))then(if 0≤e0.2 then(d.2.2.2.1[e0.2.toNat]?).bind fun v0=>
 (aK k (v0.1,(2:Int))).bind fun v1=>
 (if v1.size+v0.2.size≤9223372036854775807 then(if d.2.2.1.size+(v1++v0.2).size≤9223372036854775807 then self (d.1,d.2.1,(d.2.2.1++(v1++v0.2)),d.2.2.2.1,e0.1,(aa .i64 (e0.2+(1:Int))))else none)else none)else none)else(aK k (d.1,(4:Int))).bind fun v2=>
 (if(⟨#[74,82,78,76]⟩:ByteArray).size+v2.size≤9223372036854775807 then(aK k ((d.2.1.length:Int),(2:Int))).bind fun v3=>
 (if((⟨#[74,82,78,76]⟩:ByteArray)++v2).size+v3.size≤9223372036854775807 then(l8 k d.2.2.1).bind fun v4=>
 (aK k (v4,(4:Int))).bind fun v5=>
 (if(((⟨#[74,82,78,76]⟩:ByteArray)++v2)++v3).size+v5.size≤9223372036854775807 then(gv k (((((⟨#[74,82,78,76]⟩:ByteArray)++v2)++v3)++v5),(32:Int))).bind fun v6=>
 some v6 else none)else none)else none))
def sG(k:Nat)(x0:Int)(x1:(List ar)):Option ByteArray:=
 (bif (decide (x0<(0:Int)))then some (⟨#[]⟩:ByteArray)else(bif (decide ((1000000000:Int)<x0))then some (⟨#[]⟩:ByteArray)else(nS k x1).bind fun y1=>
 (bif (!y1)then some (⟨#[]⟩:ByteArray)else iter k (fm k) (x0,x1,(⟨#[]⟩:ByteArray),x1,(x1.length:Int),(0:Int)))))
theorem xB(k:Nat)(x0:Int)(x1:(List ar)):dm (k+1) (x0,x1)=sG k x0 x1:=by kernel_rfl
def od(k:Nat)(self:_→Option Bool)(d:((List ar)×(Unit×((List ar)×(Int×(Int×bF)))))):=
 let e0:=d.2.2.2.2
 (bif (decide (e0.1<d.2.2.2.1))then(if 0≤e0.1 then(d.2.2.1[e0.1.toNat]?).bind fun v0=>
 (bif (decide (v0.1<(0:Int)))then some false else(bif (decide ((e0.2.1.length:Int)≤v0.1))then some false else(bif (decide ((1:Int)≤v0.1))then(bif (decide (v0.1<(70:Int)))then some false else(bif ((v0.2.size:Int) != (32:Int))then some false else(bif (decide ((0:Int)<e0.1))then(if 0≤(aa .i64 (e0.1-(1:Int)))then(d.1[(aa .i64 (e0.1-(1:Int))).toNat]?).bind fun v1=>
 (bif (decide (v0.1≤v1.1))then some false else self (d.1,(),d.2.2.1,d.2.2.2.1,(aa .i64 (e0.1+(1:Int))),e0.2))else none)else self (d.1,(),d.2.2.1,d.2.2.2.1,(aa .i64 (e0.1+(1:Int))),e0.2))))else(bif ((v0.2.size:Int) != (32:Int))then some false else(bif (decide ((0:Int)<e0.1))then(if 0≤(aa .i64 (e0.1-(1:Int)))then(d.1[(aa .i64 (e0.1-(1:Int))).toNat]?).bind fun v2=>
 (bif (decide (v0.1≤v2.1))then some false else self (d.1,(),d.2.2.1,d.2.2.2.1,(aa .i64 (e0.1+(1:Int))),e0.2))else none)else self (d.1,(),d.2.2.1,d.2.2.2.1,(aa .i64 (e0.1+(1:Int))),e0.2))))))else none)else some true)
def Jz(k:Nat)(x0:bF)(x1:(List ar)):Option Bool:=
 (iu k x0).bind fun y1=>
 (bif (!y1)then some false else(bif (decide ((x0.1.length:Int)<(70:Int)))then some false else(bif (decide ((x1.length:Int)<(1:Int)))then some false else(bif (decide ((64:Int)<(x1.length:Int)))then some false else iter k (od k) (x1,(),x1,(x1.length:Int),(0:Int),x0)))))
theorem JC(k:Nat)(x0:bF)(x1:(List ar)):vP (k+1) (x0,x1)=Jz k x0 x1:=by kernel_rfl
def fS(k:Nat)(self:_→Option (Int×((List ar)×Bool)))(d:(Unit×(ByteArray×(Int×((List ar)×(Int×(Int×bF))))))):=
 let e0:=d.2.2.2.2
 (bif (decide (e0.2.1<e0.1))then(if((16:Int):Int)≠0 then(ey k ((some e0.2.2),(aa .i64 ((2:Int)+(aa .i64 (e0.2.1.tdiv (16:Int))))))).bind fun v0=>
 (if((16:Int):Int)≠0 then(aU k (v0,(aa .i64 ((2:Int)*(e0.2.1.tmod (16:Int)))),(2:Int))).bind fun v1=>
 (ey k ((some e0.2.2),(aa .i64 ((6:Int)+e0.2.1)))).bind fun v2=>
 (if(d.2.2.2.1.length+([(v1.1,v2)]:List ar).length)*24≤af then self ((),d.2.1,d.2.2.1,(d.2.2.2.1++([(v1.1,v2)]:List ar)),e0.1,(aa .i64 (e0.2.1+(1:Int))),e0.2.2)else none)else none)else none)else(dm k (d.2.2.1,d.2.2.2.1)).bind fun v3=>
 (bif (!(lB v3 d.2.1))then some ((0:Int),([]:List ar),false)else(vP k (e0.2.2,d.2.2.2.1)).bind fun v4=>
 (bif (!v4)then some ((0:Int),([]:List ar),false)else some (d.2.2.1,d.2.2.2.1,true))))
def ui(k:Nat)(x0:bF):Option (Int×((List ar)×Bool)):=
 (iu k x0).bind fun y1=>
 (bif (!y1)then some ((0:Int),([]:List ar),false)else(bif (decide ((x0.1.length:Int)<(70:Int)))then some ((0:Int),([]:List ar),false)else(ey k ((some x0),(1:Int))).bind fun y2=>
 (aU k (y2,(4:Int),(4:Int))).bind fun y3=>
 (aU k (y2,(8:Int),(2:Int))).bind fun y4=>
 (bif (decide ((64:Int)<y4.1))then some ((0:Int),([]:List ar),false)else iter k (fS k) ((),y2,y3.1,([]:List ar),y4.1,(0:Int),x0))))
theorem zu(k:Nat)(x0:bF):ll (k+1) (x0)=ui k x0:=by kernel_rfl
def KK(k:Nat)(x0:Int):Option ByteArray:=
 (if 0≤x0 then(if x0≤x0 then(if x0*1≤(af:Int)then some (ofBytes (List.replicate x0.toNat (0:Int)))else none)else none)else none)
theorem KN(k:Nat)(x0:Int):pL (k+1) (x0)=KK k x0:=by kernel_rfl
def jH(k:Nat)(self:_→Option ByteArray)(d:(ByteArray×((List az)×az))):=
 (bif (decide (d.2.2.2<d.2.2.1))then(if 0≤d.2.2.2 then(d.2.1[d.2.2.2.toNat]?).bind fun v0=>
 (aK k (v0.1,(1:Int))).bind fun v1=>
 (aK k (v0.2,(1:Int))).bind fun v2=>
 (if v1.size+v2.size≤9223372036854775807 then(if d.1.size+(v1++v2).size≤9223372036854775807 then self ((d.1++(v1++v2)),d.2.1,d.2.2.1,(aa .i64 (d.2.2.2+(1:Int))))else none)else none)else none)else(gv k (d.1,(32:Int))).bind fun v3=>
 some v3)
def AW(k:Nat)(x0:(Option cQ)):Option ByteArray:=
 (x0).bind fun y1=>
 (aK k (y1.1,(4:Int))).bind fun y2=>
 (if(⟨#[70,83,89,83]⟩:ByteArray).size+y2.size≤9223372036854775807 then(x0).bind fun y3=>
 iter k (jH k) (((⟨#[70,83,89,83]⟩:ByteArray)++y2),y3.2.1,(y3.2.1.length:Int),(0:Int))else none)
theorem EO(k:Nat)(x0:(Option cQ)):oT (k+1) (x0)=AW k x0:=by kernel_rfl
def cP(k:Nat)(self:_→Option (List ByteArray))(d:(ByteArray×(Int×(List ByteArray)))):=
 (bif (decide ((0:Int)<(d.1.size:Int)))then(if 0≤(min d.2.1 (d.1.size:Int))then(if(min d.2.1 (d.1.size:Int))≤(d.1.size:Int)then(if(d.2.2.length+([(d.1.extract 0 ((min d.2.1 (d.1.size:Int)).toNat))]:List ByteArray).length)*16≤af then(if 0≤(min d.2.1 (d.1.size:Int))then(if(min d.2.1 (d.1.size:Int))≤(d.1.size:Int)then self ((d.1.extract ((min d.2.1 (d.1.size:Int)).toNat) d.1.size),d.2.1,(d.2.2++([(d.1.extract 0 ((min d.2.1 (d.1.size:Int)).toNat))]:List ByteArray)))else none)else none)else none)else none)else none)else some d.2.2)
def zk(k:Nat)(x0:ByteArray)(x1:Int):Option (List ByteArray):=
 (bif (decide (x1<(1:Int)))then some ([]:List ByteArray)else(bif (decide ((1000:Int)<x1))then some ([]:List ByteArray)else iter k (cP k) (x0,x1,([]:List ByteArray))))
theorem vZ(k:Nat)(x0:ByteArray)(x1:Int):ku (k+1) (x0,x1)=zk k x0 x1:=by kernel_rfl
def kU(k:Nat)(self:_→Option ByteArray)(d:(ByteArray×((List av)×az))):=
 (bif (decide (d.2.2.2<d.2.2.1))then(if 0≤d.2.2.2 then(d.2.1[d.2.2.2.toNat]?).bind fun v0=>
 (aK k (v0.1,(1:Int))).bind fun v1=>
 (aK k (v0.2.1,(1:Int))).bind fun v2=>
 (if v1.size+v2.size≤9223372036854775807 then(aK k (v0.2.2,(1:Int))).bind fun v3=>
 (if(v1++v2).size+v3.size≤9223372036854775807 then(if d.1.size+((v1++v2)++v3).size≤9223372036854775807 then self ((d.1++((v1++v2)++v3)),d.2.1,d.2.2.1,(aa .i64 (d.2.2.2+(1:Int))))else none)else none)else none)else none)else(gv k (d.1,(19:Int))).bind fun v4=>
 some v4)
def vK(k:Nat)(x0:(List av)):Option ByteArray:=
 (l4 k x0).bind fun y1=>
 (bif (!y1)then some (⟨#[]⟩:ByteArray)else(aK k ((x0.length:Int),(1:Int))).bind fun y2=>
 iter k (kU k) (y2,x0,(x0.length:Int),(0:Int)))
theorem tS(k:Nat)(x0:(List av)):fT (k+1) (x0)=vK k x0:=by kernel_rfl
def iE(k:Nat)(self:_→Option ByteArray)(d:(Unit×(ByteArray×(Int×ax)))):=
 let e0:=d.2.2.2.2
 let e1:=e0.2.2.2.2
 (bif (decide (d.2.2.1<(8:Int)))then(bif (decide (d.2.2.1<(e1.2.2.1.length:Int)))then(if 0≤d.2.2.1 then(e1.2.2.1[d.2.2.1.toNat]?).bind fun v0=>
 (aK k ((aa .i64 (v0+(1:Int))),(2:Int))).bind fun v1=>
 (if d.2.1.size+v1.size≤9223372036854775807 then self ((),(d.2.1++v1),(aa .i64 (d.2.2.1+(1:Int))),d.2.2.2)else none)else none)else(aK k ((aa .i64 ((-1:Int)+(1:Int))),(2:Int))).bind fun v2=>
 (if d.2.1.size+v2.size≤9223372036854775807 then self ((),(d.2.1++v2),(aa .i64 (d.2.2.1+(1:Int))),d.2.2.2)else none))else(fT k e1.2.2.2.1).bind fun v3=>
 (if d.2.1.size+v3.size≤9223372036854775807 then(fT k e1.2.2.2.2).bind fun v4=>
 (if(d.2.1++v3).size+v4.size≤9223372036854775807 then(gv k (((d.2.1++v3)++v4),(96:Int))).bind fun v5=>
 some v5 else none)else none))
def qT(k:Nat)(x0:ax):Option ByteArray:=
 (l9 k x0).bind fun y1=>
 (bif (!y1)then some (⟨#[]⟩:ByteArray)else(aK k (x0.1,(1:Int))).bind fun y2=>
 (aK k (x0.2.1,(2:Int))).bind fun y3=>
 (if y2.size+y3.size≤9223372036854775807 then(aK k (x0.2.2.1,(1:Int))).bind fun y4=>
 (if(y2++y3).size+y4.size≤9223372036854775807 then(aK k (x0.2.2.2.1,(1:Int))).bind fun y5=>
 (if((y2++y3)++y4).size+y5.size≤9223372036854775807 then(aK k (x0.2.2.2.2.1,(2:Int))).bind fun y6=>
 (if(((y2++y3)++y4)++y5).size+y6.size≤9223372036854775807 then(aK k (x0.2.2.2.2.2.1,(2:Int))).bind fun y7=>
 (if((((y2++y3)++y4)++y5)++y6).size+y7.size≤9223372036854775807 then(aK k (x0.2.2.2.2.2.2.1,(4:Int))).bind fun y8=>
 (if(((((y2++y3)++y4)++y5)++y6)++y7).size+y8.size≤9223372036854775807 then iter k (iE k) ((),((((((y2++y3)++y4)++y5)++y6)++y7)++y8),(0:Int),x0)else none)else none)else none)else none)else none)else none))
theorem qu(k:Nat)(x0:ax):eu (k+1) (x0)=qT k x0:=by kernel_rfl
def lZ(k:Nat)(self:_→Option (List ByteArray))(d:(Unit×((List ByteArray)×((List ax)×(Int×(Int×cQ)))))):=
 let e0:=d.2.2.2.2
 (bif (decide (e0.1<d.2.2.2.1))then(if 0≤e0.1 then(d.2.2.1[e0.1.toNat]?).bind fun v0=>
 (eu k v0).bind fun v1=>
 (ku k (v1,(32:Int))).bind fun v2=>
 (if(d.2.1.length+v2.length)*16≤af then self ((),(d.2.1++v2),d.2.2.1,d.2.2.2.1,(aa .i64 (e0.1+(1:Int))),e0.2)else none)else none)else(if(d.2.1.length+e0.2.2.2.2.length)*16≤af then some (d.2.1++e0.2.2.2.2)else none))
def Hx(k:Nat)(x0:cQ):Option (List ByteArray):=
 (jc k x0).bind fun y1=>
 (bif (!y1)then some ([]:List ByteArray)else(oT k (some x0)).bind fun y2=>
 (pL k (32:Int)).bind fun y3=>
 (dG k (([y3]:List ByteArray),(69:Int))).bind fun y4=>
 (if(([y2]:List ByteArray).length+y4.length)*16≤af then iter k (lZ k) ((),(([y2]:List ByteArray)++y4),x0.2.2.1,(x0.2.2.1.length:Int),(0:Int),x0)else none))
theorem Ir(k:Nat)(x0:cQ):kr (k+1) (x0)=Hx k x0:=by kernel_rfl
def iI(k:Nat)(self:_→Option ((List av)×Bool))(d:(ByteArray×((List av)×az))):=
 (bif (decide (d.2.2.2<d.2.2.1))then(if 0≤(aa .i64 ((1:Int)+(aa .i64 ((3:Int)*d.2.2.2))))then((d.1[(aa .i64 ((1:Int)+(aa .i64 ((3:Int)*d.2.2.2)))).toNat]?.map fun v0=>(v0.toNat:Int))).bind fun v1=>
 (if 0≤(aa .i64 ((2:Int)+(aa .i64 ((3:Int)*d.2.2.2))))then((d.1[(aa .i64 ((2:Int)+(aa .i64 ((3:Int)*d.2.2.2)))).toNat]?.map fun v0=>(v0.toNat:Int))).bind fun v2=>
 (if 0≤(aa .i64 ((3:Int)+(aa .i64 ((3:Int)*d.2.2.2))))then((d.1[(aa .i64 ((3:Int)+(aa .i64 ((3:Int)*d.2.2.2)))).toNat]?.map fun v0=>(v0.toNat:Int))).bind fun v3=>
 (if(d.2.1.length+([((aa .i64 v1),(aa .i64 v2),(aa .i64 v3))]:List av).length)*24≤af then self (d.1,(d.2.1++([((aa .i64 v1),(aa .i64 v2),(aa .i64 v3))]:List av)),d.2.2.1,(aa .i64 (d.2.2.2+(1:Int))))else none)else none)else none)else none)else(fT k d.2.1).bind fun v4=>
 (bif (!(lB v4 d.1))then some (([]:List av),false)else some (d.2.1,true)))
def yX(k:Nat)(x0:ByteArray):Option ((List av)×Bool):=
 (bif ((x0.size:Int) != (19:Int))then some (([]:List av),false)else(if 0≤(0:Int)then((x0[(0:Int).toNat]?.map fun c=>(c.toNat:Int))).bind fun y1=>
 (bif (decide ((6:Int)<y1))then some (([]:List av),false)else(if 0≤(0:Int)then((x0[(0:Int).toNat]?.map fun c=>(c.toNat:Int))).bind fun y2=>
 iter k (iI k) (x0,([]:List av),(aa .i64 y2),(0:Int))else none))else none))
theorem CY(k:Nat)(x0:ByteArray):eD (k+1) (x0)=yX k x0:=by kernel_rfl
def fN(k:Nat)(self:_→Option (ax×Bool))(d:(Unit×(Unit×(Unit×(Unit×(Unit×(Int×(ax×(Int×(ax×ByteArray)))))))))):=
 let e0:=d.2.2.2.2
 let e1:=e0.2.2.2.2
 (bif (decide (e0.2.1<(8:Int)))then(aU k (e1.2,e0.2.2.2.1,(2:Int))).bind fun v0=>
 (fM k e0.2.2.1.2.2.2.2.2.1).bind fun v1=>
 (bif (decide (e0.2.1<v1))then(if(e0.2.2.1.2.2.2.2.2.2.2.1.length+([(aa .i64 (v0.1-(1:Int)))]:List Int).length)*8≤af then self ((),(),(),(),(),(aa .i64 (e0.2.1+(1:Int))),(e0.2.2.1.1,e0.2.2.1.2.1,e0.2.2.1.2.2.1,e0.2.2.1.2.2.2.1,e0.2.2.1.2.2.2.2.1,e0.2.2.1.2.2.2.2.2.1,e0.2.2.1.2.2.2.2.2.2.1,(e0.2.2.1.2.2.2.2.2.2.2.1++([(aa .i64 (v0.1-(1:Int)))]:List Int)),e0.2.2.1.2.2.2.2.2.2.2.2),(aa .i64 (e0.2.2.2.1+(2:Int))),e1.1,e1.2)else none)else self ((),(),(),(),(),(aa .i64 (e0.2.1+(1:Int))),e0.2.2.1,(aa .i64 (e0.2.2.2.1+(2:Int))),e1.1,e1.2))else(if 0≤(aa .i64 (e0.2.2.2.1+(19:Int)))then(if(aa .i64 (e0.2.2.2.1+(19:Int)))≤(e1.2.size:Int)then(if 0≤e0.2.2.2.1 then(if e0.2.2.2.1≤(((aa .i64 (e0.2.2.2.1+(19:Int))).toNat:Nat):Int)then(eD k (e1.2.extract e0.2.2.2.1.toNat ((aa .i64 (e0.2.2.2.1+(19:Int))).toNat))).bind fun v2=>
 (if 0≤(aa .i64 (e0.2.2.2.1+(38:Int)))then(if(aa .i64 (e0.2.2.2.1+(38:Int)))≤(e1.2.size:Int)then(if 0≤(aa .i64 (e0.2.2.2.1+(19:Int)))then(if(aa .i64 (e0.2.2.2.1+(19:Int)))≤(((aa .i64 (e0.2.2.2.1+(38:Int))).toNat:Nat):Int)then(eD k (e1.2.extract ((aa .i64 (e0.2.2.2.1+(19:Int))).toNat) ((aa .i64 (e0.2.2.2.1+(38:Int))).toNat))).bind fun v3=>
 (bif (!v2.2)then some (((0:Int),(0:Int),(0:Int),(0:Int),(0:Int),(0:Int),(0:Int),([]:List Int),([]:List av),([]:List av)),false)else(bif (!v3.2)then some (((0:Int),(0:Int),(0:Int),(0:Int),(0:Int),(0:Int),(0:Int),([]:List Int),([]:List av),([]:List av)),false)else(eu k (e0.2.2.1.1,e0.2.2.1.2.1,e0.2.2.1.2.2.1,e0.2.2.1.2.2.2.1,e0.2.2.1.2.2.2.2.1,e0.2.2.1.2.2.2.2.2.1,e0.2.2.1.2.2.2.2.2.2.1,e0.2.2.1.2.2.2.2.2.2.2.1,v2.1,v3.1)).bind fun v4=>
 (bif (!(lB v4 e1.2))then some (((0:Int),(0:Int),(0:Int),(0:Int),(0:Int),(0:Int),(0:Int),([]:List Int),([]:List av),([]:List av)),false)else some ((e0.2.2.1.1,e0.2.2.1.2.1,e0.2.2.1.2.2.1,e0.2.2.1.2.2.2.1,e0.2.2.1.2.2.2.2.1,e0.2.2.1.2.2.2.2.2.1,e0.2.2.1.2.2.2.2.2.2.1,e0.2.2.1.2.2.2.2.2.2.2.1,v2.1,v3.1),true))))else none)else none)else none)else none)else none)else none)else none)else none))
def ua(k:Nat)(x0:ByteArray):Option (ax×Bool):=
 (bif ((x0.size:Int) != (96:Int))then some (((0:Int),(0:Int),(0:Int),(0:Int),(0:Int),(0:Int),(0:Int),([]:List Int),([]:List av),([]:List av)),false)else(aU k (x0,(0:Int),(1:Int))).bind fun y1=>
 (aU k (x0,(aa .i64 ((0:Int)+(1:Int))),(2:Int))).bind fun y2=>
 (aU k (x0,(aa .i64 ((aa .i64 ((0:Int)+(1:Int)))+(2:Int))),(1:Int))).bind fun y3=>
 (aU k (x0,(aa .i64 ((aa .i64 ((aa .i64 ((0:Int)+(1:Int)))+(2:Int)))+(1:Int))),(1:Int))).bind fun y4=>
 (aU k (x0,(aa .i64 ((aa .i64 ((aa .i64 ((aa .i64 ((0:Int)+(1:Int)))+(2:Int)))+(1:Int)))+(1:Int))),(2:Int))).bind fun y5=>
 (aU k (x0,(aa .i64 ((aa .i64 ((aa .i64 ((aa .i64 ((aa .i64 ((0:Int)+(1:Int)))+(2:Int)))+(1:Int)))+(1:Int)))+(2:Int))),(2:Int))).bind fun y6=>
 (aU k (x0,(aa .i64 ((aa .i64 ((aa .i64 ((aa .i64 ((aa .i64 ((aa .i64 ((0:Int)+(1:Int)))+(2:Int)))+(1:Int)))+(1:Int)))+(2:Int)))+(2:Int))),(4:Int))).bind fun y7=>
 iter k (fN k) ((),(),(),(),(),(0:Int),(y1.1,y2.1,y3.1,y4.1,y5.1,y6.1,y7.1,([]:List Int),([]:List av),([]:List av)),(aa .i64 ((aa .i64 ((aa .i64 ((aa .i64 ((aa .i64 ((aa .i64 ((aa .i64 ((0:Int)+(1:Int)))+(2:Int)))+(1:Int)))+(1:Int)))+(2:Int)))+(2:Int)))+(4:Int))),((0:Int),(0:Int),(0:Int),(0:Int),(0:Int),(0:Int),(0:Int),([]:List Int),([]:List av),([]:List av)),x0))
theorem yH(k:Nat)(x0:ByteArray):lg (k+1) (x0)=ua k x0:=by kernel_rfl
def LR(k:Nat)(x0:(List ByteArray))(x1:ByteArray):Option ByteArray:=
 (yZ k (x0,x1)).bind fun y1=>
 some y1
theorem K4(k:Nat)(x0:(List ByteArray))(x1:ByteArray):yh (k+1) (x0,x1)=LR k x0 x1:=by kernel_rfl
def eE(k:Nat)(self:_→Option (cQ×Bool))(d:((List ByteArray)×(Unit×(Unit×((List ByteArray)×(Int×(Int×(cQ×cQ)))))))):=
 let e0:=d.2.2.2.2
 (bif (decide (e0.2.1<e0.1))then(if 0≤e0.2.1 then(if e0.2.1<(d.2.2.2.1.length:Int)then(d.2.2.2.1[e0.2.1.toNat]?).bind fun v0=>
 (bif (decide (e0.2.1<(1:Int)))then(if 0≤e0.2.1 then(d.1[e0.2.1.toNat]?).bind fun v1=>
 (bif (!(lB v0 v1))then some (((0:Int),([]:List az),([]:List ax),([]:List ByteArray)),false)else self (d.1,(),(),d.2.2.2.1,e0.1,(aa .i64 (e0.2.1+(1:Int))),e0.2.2.1,e0.2.2.2))else none)else(bif (decide ((70:Int)≤e0.2.1))then(if 0≤e0.2.1 then(d.1[e0.2.1.toNat]?).bind fun v2=>
 (bif (!(lB v0 v2))then some (((0:Int),([]:List az),([]:List ax),([]:List ByteArray)),false)else self (d.1,(),(),d.2.2.2.1,e0.1,(aa .i64 (e0.2.1+(1:Int))),e0.2.2.1,e0.2.2.2))else none)else self (d.1,(),(),d.2.2.2.1,e0.1,(aa .i64 (e0.2.1+(1:Int))),e0.2.2.1,e0.2.2.2)))else none)else none)else some (e0.2.2.1,true))
def gh(k:Nat)(self:_→Option (cQ×Bool))(d:((List ByteArray)×(Unit×(Bool×(Unit×(Int×(cQ×cQ))))))):=
 let e0:=d.2.2.2.2
 (bif (decide (e0.1<(20:Int)))then(if 0≤(aa .i64 ((aa .i64 ((70:Int)+(aa .i64 ((3:Int)*e0.1))))+(3:Int)))then(if(aa .i64 ((aa .i64 ((70:Int)+(aa .i64 ((3:Int)*e0.1))))+(3:Int)))≤(d.1.length:Int)then(if 0≤(aa .i64 ((70:Int)+(aa .i64 ((3:Int)*e0.1))))then(if(aa .i64 ((70:Int)+(aa .i64 ((3:Int)*e0.1))))≤(((aa .i64 ((aa .i64 ((70:Int)+(aa .i64 ((3:Int)*e0.1))))+(3:Int))).toNat:Nat):Int)then(yh k (((d.1.take ((aa .i64 ((aa .i64 ((70:Int)+(aa .i64 ((3:Int)*e0.1))))+(3:Int))).toNat)).drop ((aa .i64 ((70:Int)+(aa .i64 ((3:Int)*e0.1)))).toNat)),(⟨#[]⟩:ByteArray))).bind fun v0=>
 (lg k v0).bind fun v1=>
 (if(e0.2.1.2.2.1.length+([v1.1]:List ax).length)*128≤af then(bif d.2.2.1 then self (d.1,(),v1.2,(),(aa .i64 (e0.1+(1:Int))),(e0.2.1.1,e0.2.1.2.1,(e0.2.1.2.2.1++([v1.1]:List ax)),e0.2.1.2.2.2),e0.2.2)else self (d.1,(),false,(),(aa .i64 (e0.1+(1:Int))),(e0.2.1.1,e0.2.1.2.1,(e0.2.1.2.2.1++([v1.1]:List ax)),e0.2.1.2.2.2),e0.2.2))else none)else none)else none)else none)else none)else(if 0≤(130:Int)then(if(130:Int)≤(d.1.length:Int)then(dT k ((d.1.take d.1.length).drop ((130:Int).toNat))).bind fun v2=>
 (bif (!d.2.2.1)then some (((0:Int),([]:List az),([]:List ax),([]:List ByteArray)),false)else(jc k (e0.2.1.1,e0.2.1.2.1,e0.2.1.2.2.1,v2)).bind fun v3=>
 (bif (!v3)then some (((0:Int),([]:List az),([]:List ax),([]:List ByteArray)),false)else(kr k (e0.2.1.1,e0.2.1.2.1,e0.2.1.2.2.1,v2)).bind fun v4=>
 iter k (eE k) (d.1,(),(),v4,(v4.length:Int),(0:Int),(e0.2.1.1,e0.2.1.2.1,e0.2.1.2.2.1,v2),e0.2.2)))else none)else none))
def jZ(k:Nat)(self:_→Option (cQ×Bool))(d:((List ByteArray)×(Unit×(Bool×(Unit×(Int×(cQ×cQ))))))):=
 let e0:=d.2.2.2.2
 (bif (decide (e0.1<(4:Int)))then(if 0≤(0:Int)then(d.1[(0:Int).toNat]?).bind fun v0=>
 (aU k (v0,(aa .i64 ((8:Int)+(aa .i64 ((2:Int)*e0.1)))),(1:Int))).bind fun v1=>
 (if 0≤(0:Int)then(d.1[(0:Int).toNat]?).bind fun v2=>
 (aU k (v2,(aa .i64 ((9:Int)+(aa .i64 ((2:Int)*e0.1)))),(1:Int))).bind fun v3=>
 (if(e0.2.1.2.1.length+([(v1.1,v3.1)]:List az).length)*16≤af then(bif d.2.2.1 then(bif v1.2 then self (d.1,(),v3.2,(),(aa .i64 (e0.1+(1:Int))),(e0.2.1.1,(e0.2.1.2.1++([(v1.1,v3.1)]:List az)),e0.2.1.2.2),e0.2.2)else self (d.1,(),false,(),(aa .i64 (e0.1+(1:Int))),(e0.2.1.1,(e0.2.1.2.1++([(v1.1,v3.1)]:List az)),e0.2.1.2.2),e0.2.2))else self (d.1,(),false,(),(aa .i64 (e0.1+(1:Int))),(e0.2.1.1,(e0.2.1.2.1++([(v1.1,v3.1)]:List az)),e0.2.1.2.2),e0.2.2))else none)else none)else none)else iter k (gh k) (d.1,(),d.2.2.1,(),(0:Int),e0.2.1,e0.2.2))
def A4(k:Nat)(x0:(List ByteArray)):Option (cQ×Bool):=
 (bif ((x0.length:Int) != (186:Int))then some (((0:Int),([]:List az),([]:List ax),([]:List ByteArray)),false)else(if 0≤(0:Int)then(x0[(0:Int).toNat]?).bind fun y1=>
 (aU k (y1,(4:Int),(4:Int))).bind fun y2=>
 iter k (jZ k) (x0,(),y2.2,(),(0:Int),(y2.1,([]:List az),([]:List ax),([]:List ByteArray)),((0:Int),([]:List az),([]:List ax),([]:List ByteArray)))else none))
theorem EV(k:Nat)(x0:(List ByteArray)):kO (k+1) (x0)=A4 k x0:=by kernel_rfl
def m5(k:Nat)(self:_→Option (cQ×Bool))(d:(Unit×(Unit×((List ByteArray)×(Int×(Int×(cQ×bF))))))):=
 let e0:=d.2.2.2.2
 (bif (decide (e0.1<d.2.2.2.1))then(ey k ((some e0.2.2),e0.1)).bind fun v0=>
 (if(d.2.2.1.length+([v0]:List ByteArray).length)*16≤af then self ((),(),(d.2.2.1++([v0]:List ByteArray)),d.2.2.2.1,(aa .i64 (e0.1+(1:Int))),e0.2.1,e0.2.2)else none)else(kO k d.2.2.1).bind fun v1=>
 some (v1.1,v1.2))
def Hc(k:Nat)(x0:bF):Option (cQ×Bool):=
 (iu k x0).bind fun y1=>
 (bif (!y1)then some (((0:Int),([]:List az),([]:List ax),([]:List ByteArray)),false)else(bif ((x0.1.length:Int) != (186:Int))then some (((0:Int),([]:List az),([]:List ax),([]:List ByteArray)),false)else iter k (m5 k) ((),(),([]:List ByteArray),(x0.1.length:Int),(0:Int),((0:Int),([]:List az),([]:List ax),([]:List ByteArray)),x0)))
theorem Iu(k:Nat)(x0:bF):s6 (k+1) (x0)=Hc k x0:=by kernel_rfl
def bU(k:Nat)(self:_→Option Bool)(d:((List az)×((List az)×az))):=
 (bif (decide (d.2.2.2<d.2.2.1))then(if 0≤d.2.2.2 then(d.1[d.2.2.2.toNat]?).bind fun v0=>
 (if 0≤d.2.2.2 then(d.2.1[d.2.2.2.toNat]?).bind fun v1=>
 (bif (!((v0.1==v1.1)&&(v0.2==v1.2)))then some false else self (d.1,d.2.1,d.2.2.1,(aa .i64 (d.2.2.2+(1:Int)))))else none)else none)else some true)
def eM(k:Nat)(x0:(List az))(x1:(List az)):Option Bool:=
 (bif ((x0.length:Int) != (x1.length:Int))then some false else iter k (bU k) (x0,x1,(x0.length:Int),(0:Int)))
theorem ji(k:Nat)(x0:(List az))(x1:(List az)):cC (k+1) (x0,x1)=eM k x0 x1:=by kernel_rfl
def cI(k:Nat)(self:_→Option Bool)(d:((List ByteArray)×((List ByteArray)×az))):=
 (bif (decide (d.2.2.2<d.2.2.1))then(if 0≤d.2.2.2 then(d.1[d.2.2.2.toNat]?).bind fun v0=>
 (if 0≤d.2.2.2 then(d.2.1[d.2.2.2.toNat]?).bind fun v1=>
 (bif (!(lB v0 v1))then some false else self (d.1,d.2.1,d.2.2.1,(aa .i64 (d.2.2.2+(1:Int)))))else none)else none)else some true)
def iY(k:Nat)(x0:(List ByteArray))(x1:(List ByteArray)):Option Bool:=
 (bif ((x0.length:Int) != (x1.length:Int))then some false else iter k (cI k) (x0,x1,(x0.length:Int),(0:Int)))
theorem nE(k:Nat)(x0:(List ByteArray))(x1:(List ByteArray)):dW (k+1) (x0,x1)=iY k x0 x1:=by kernel_rfl
def mh(k:Nat)(self:_→Option Bool)(d:((List ax)×(Unit×((List ax)×(Int×(Int×(cQ×cQ))))))):=
 let e0:=d.2.2.2.2
 (bif (decide (e0.1<d.2.2.2.1))then(if 0≤e0.1 then(d.2.2.1[e0.1.toNat]?).bind fun v0=>
 (if 0≤e0.1 then(d.1[e0.1.toNat]?).bind fun v1=>
 (jX k (v0,v1)).bind fun v2=>
 (bif (!v2)then some false else self (d.1,(),d.2.2.1,d.2.2.2.1,(aa .i64 (e0.1+(1:Int))),e0.2.1,e0.2.2))else none)else none)else(dW k (e0.2.2.2.2.2,e0.2.1.2.2.2)).bind fun v3=>
 some v3)
def Hb(k:Nat)(x0:cQ)(x1:cQ):Option Bool:=
 (bif (x0.1==x1.1)then(cC k (x0.2.1,x1.2.1)).bind fun y1=>
 (bif y1 then(bif ((x0.2.2.1.length:Int) != (x1.2.2.1.length:Int))then some false else iter k (mh k) (x1.2.2.1,(),x0.2.2.1,(x0.2.2.1.length:Int),(0:Int),x1,x0))else some false)else some false)
theorem Io(k:Nat)(x0:cQ)(x1:cQ):s8 (k+1) (x0,x1)=Hb k x0 x1:=by kernel_rfl
def xO(k:Nat)(x0:aY):Option Bool:=
 (oR k x0.2.2).bind fun y1=>
 (bif (!y1)then some false else(bif (decide (x0.2.1<(0:Int)))then some false else(bif (decide ((1000000000:Int)<x0.2.1))then some false else(iu k x0.1).bind fun y2=>
 (bif (!y2)then some false else(bif (decide ((0:Int)<(x0.1.2.length:Int)))then some false else(ll k x0.1).bind fun y3=>
 (bif y3.2.2 then some false else(s6 k x0.1).bind fun y4=>
 (bif y4.2 then(s8 k (y4.1,x0.2.2.1)).bind fun y5=>
 some y5 else some false)))))))
theorem B8(k:Nat)(x0:aY):ng (k+1) (x0)=xO k x0:=by kernel_rfl
def gO(k:Nat)(self:_→Option (List DStep))(d:((List DStep)×((List ar)×az))):=
 (bif (decide (d.2.2.2<d.2.2.1))then(if 0≤d.2.2.2 then(d.2.1[d.2.2.2.toNat]?).bind fun v0=>
 (if(d.1.length+([(false,v0)]:List DStep).length)*32≤af then self ((d.1++([(false,v0)]:List DStep)),d.2.1,d.2.2.1,(aa .i64 (d.2.2.2+(1:Int))))else none)else none)else some d.1)
def xm(k:Nat)(x0:(List ar)):Option (List DStep):=
 iter k (gO k) (([]:List DStep),x0,(x0.length:Int),(0:Int))
theorem AA(k:Nat)(x0:(List ar)):iH (k+1) (x0)=xm k x0:=by kernel_rfl
def rG(k:Nat)(x0:(List ar)):Option (List DStep):=
 (iH k x0).bind fun y1=>
 (pL k (32:Int)).bind fun y2=>
 (if(y1.length+([(true,(0:Int),ByteArray.empty),(false,(1:Int),y2),(true,(0:Int),ByteArray.empty)]:List DStep).length)*32≤af then some (y1++([(true,(0:Int),ByteArray.empty),(false,(1:Int),y2),(true,(0:Int),ByteArray.empty)]:List DStep))else none)
theorem xw(k:Nat)(x0:(List ar)):kn (k+1) (x0)=rG k x0:=by kernel_rfl
def fV(k:Nat)(a0:Int)(a1:(List ar))(self:_→Option (List DStep))(d:((List ar)×((List ar)×((List ByteArray)×az)))):=
 let e0:=d.2.2.2.2
 (bif (decide (e0<d.2.2.2.1))then(if 0≤e0 then(if e0<(d.2.2.1.length:Int)then(d.2.2.1[e0.toNat]?).bind fun v0=>
 (gv k (v0,(32:Int))).bind fun v1=>
 (if(d.2.1.length+([((aa .i64 ((2:Int)+e0)),v1)]:List ar).length)*24≤af then self (d.1,(d.2.1++([((aa .i64 ((2:Int)+e0)),v1)]:List ar)),d.2.2.1,d.2.2.2.1,(aa .i64 (e0+(1:Int))))else none)else none)else none)else(if(d.2.1.length+d.1.length)*24≤af then(dm k (a0,a1)).bind fun v2=>
 (if(d.2.1++d.1).isEmpty=false then(bif (lB v2 (⟨#[]⟩:ByteArray))then some ([]:List DStep)else(iH k (d.2.1++d.1)).bind fun v3=>
 (if(v3.length+([(true,(0:Int),ByteArray.empty),(false,(1:Int),v2),(true,(0:Int),ByteArray.empty)]:List DStep).length)*32≤af then(kn k a1).bind fun v4=>
 (if((v3++([(true,(0:Int),ByteArray.empty),(false,(1:Int),v2),(true,(0:Int),ByteArray.empty)]:List DStep)).length+v4.length)*32≤af then some ((v3++([(true,(0:Int),ByteArray.empty),(false,(1:Int),v2),(true,(0:Int),ByteArray.empty)]:List DStep))++v4)else none)else none))else none)else none))
def kg(k:Nat)(a0:Int)(a1:(List ar))(self:_→Option (List DStep))(d:(ByteArray×((List ar)×((List ar)×az)))):=
 let e0:=d.2.2.2.2
 (bif (decide (e0<d.2.2.2.1))then(if 0≤e0 then(d.2.2.1[e0.toNat]?).bind fun v0=>
 (bif ((v0.2.size:Int) != (32:Int))then(dm k (a0,a1)).bind fun v1=>
 some ([]:List DStep)else(aK k (v0.1,(2:Int))).bind fun v2=>
 (if d.1.size+v2.size≤9223372036854775807 then(if(d.2.1.length+([((aa .i64 ((6:Int)+e0)),v0.2)]:List ar).length)*24≤af then self ((d.1++v2),(d.2.1++([((aa .i64 ((6:Int)+e0)),v0.2)]:List ar)),d.2.2.1,d.2.2.2.1,(aa .i64 (e0+(1:Int))))else none)else none))else none)else(ku k (d.1,(32:Int))).bind fun v3=>
 iter k (fV k a0 a1) (d.2.1,([]:List ar),v3,(v3.length:Int),(0:Int)))
def Bm(k:Nat)(x0:Int)(x1:(List ar)):Option (List DStep):=
 (nS k x1).bind fun y1=>
 (bif (!y1)then(dm k (x0,x1)).bind fun y2=>
 some ([]:List DStep)else iter k (kg k x0 x1) ((⟨#[]⟩:ByteArray),([]:List ar),x1,(x1.length:Int),(0:Int)))
theorem E7(k:Nat)(x0:Int)(x1:(List ar)):oU (k+1) (x0,x1)=Bm k x0 x1:=by kernel_rfl
def gB(k:Nat)(self:_→Option (List ar))(d:((List ByteArray)×((List ar)×((List ByteArray)×az)))):=
 let e0:=d.2.2.2.2
 (bif (decide (e0<d.2.2.2.1))then(if 0≤e0 then(d.2.2.1[e0.toNat]?).bind fun v0=>
 (bif (decide (e0<(1:Int)))then(if 0≤e0 then(d.1[e0.toNat]?).bind fun v1=>
 (bif (!(lB v0 v1))then(if(d.2.1.length+([(e0,v0)]:List ar).length)*24≤af then self (d.1,(d.2.1++([(e0,v0)]:List ar)),d.2.2.1,d.2.2.2.1,(aa .i64 (e0+(1:Int))))else none)else self (d.1,d.2.1,d.2.2.1,d.2.2.2.1,(aa .i64 (e0+(1:Int)))))else none)else(bif (decide ((70:Int)≤e0))then(if 0≤e0 then(d.1[e0.toNat]?).bind fun v2=>
 (bif (!(lB v0 v2))then(if(d.2.1.length+([(e0,v0)]:List ar).length)*24≤af then self (d.1,(d.2.1++([(e0,v0)]:List ar)),d.2.2.1,d.2.2.2.1,(aa .i64 (e0+(1:Int))))else none)else self (d.1,d.2.1,d.2.2.1,d.2.2.2.1,(aa .i64 (e0+(1:Int)))))else none)else self (d.1,d.2.1,d.2.2.1,d.2.2.2.1,(aa .i64 (e0+(1:Int))))))else none)else some d.2.1)
def wZ(k:Nat)(x0:(List ByteArray))(x1:(List ByteArray)):Option (List ar):=
 (bif ((x0.length:Int) != (186:Int))then some ([]:List ar)else(bif ((x1.length:Int) != (186:Int))then some ([]:List ar)else iter k (gB k) (x0,([]:List ar),x1,(x1.length:Int),(0:Int))))
theorem Av(k:Nat)(x0:(List ByteArray))(x1:(List ByteArray)):mq (k+1) (x0,x1)=wZ k x0 x1:=by kernel_rfl
def qW(k:Nat)(x0:(Option aY))(x1:cQ):Option (List DStep):=
 (x0).bind fun y1=>
 (x0).bind fun y2=>
 (kr k y2.2.2.1).bind fun y3=>
 (kr k x1).bind fun y4=>
 (mq k (y3,y4)).bind fun y5=>
 (oU k ((aa .i64 (y1.2.1+(1:Int))),y5)).bind fun y6=>
 some y6
theorem vA(k:Nat)(x0:(Option aY))(x1:cQ):oP (k+1) (x0,x1)=qW k x0 x1:=by kernel_rfl
def tY(k:Nat)(x0:aY)(x1:cQ):Option (List DStep):=
 (ng k x0).bind fun y1=>
 (bif (!y1)then some ([]:List DStep)else(jc k x1).bind fun y2=>
 (bif (!y2)then some ([]:List DStep)else(oP k ((some x0),x1)).bind fun y3=>
 some y3))
theorem zL(k:Nat)(x0:aY)(x1:cQ):gT (k+1) (x0,x1)=tY k x0 x1:=by kernel_rfl
def Hn(k:Nat)(x0:DStep)(x1:DStep):Option Bool:=
 (bif (x0.1 != x1.1)then some false else(js k (x0.2,x1.2)).bind fun y1=>
 (bif (!y1)then some false else some true))
theorem Ib(k:Nat)(x0:DStep)(x1:DStep):nW (k+1) (x0,x1)=Hn k x0 x1:=by kernel_rfl
def wC(k:Nat)(self:_→Option Bool)(d:((List DStep)×((List DStep)×Int))):=
 (bif (decide (d.2.2<(d.1.length:Int)))then(if 0≤d.2.2 then(d.1[d.2.2.toNat]?).bind fun v0=>
 (if 0≤d.2.2 then(d.2.1[d.2.2.toNat]?).bind fun v1=>
 (nW k (v0,v1)).bind fun v2=>
 (bif (!v2)then some false else self (d.1,d.2.1,(aa .i64 (d.2.2+(1:Int)))))else none)else none)else some true)
def ER(k:Nat)(x0:(List DStep))(x1:(List DStep)):Option Bool:=
 (bif ((x0.length:Int) != (x1.length:Int))then some false else iter k (wC k) (x0,x1,(0:Int)))
theorem Fu(k:Nat)(x0:(List DStep))(x1:(List DStep)):iX (k+1) (x0,x1)=ER k x0 x1:=by kernel_rfl
def iN(k:Nat)(self:_→Option (Int×(List DStep)))(d:(Unit×(Int×(Int×(List DStep))))):=
 (bif (decide (d.2.2.1<(d.2.2.2.length:Int)))then(if((3:Int):Int)≠0 then(if 0≤d.2.2.1 then(if d.2.2.1<(d.2.2.2.length:Int)then(d.2.2.2[d.2.2.1.toNat]?).bind fun v0=>
 (if 0≤d.2.2.1 then(if d.2.2.1<(((d.2.2.2.set d.2.2.1.toNat (((d.2.1.tmod (3:Int))==(0:Int)),v0.2)).length:Nat):Int)then((d.2.2.2.set d.2.2.1.toNat (((d.2.1.tmod (3:Int))==(0:Int)),v0.2))[d.2.2.1.toNat]?).bind fun v1=>
 (dn k (aa .i64 ((aa .i64 (d.2.1+(1:Int)))+(1:Int)))).bind fun v2=>
 (if 0≤d.2.2.1 then(if d.2.2.1<((((d.2.2.2.set d.2.2.1.toNat (((d.2.1.tmod (3:Int))==(0:Int)),v0.2)).set d.2.2.1.toNat (v1.1,(aa .i64 (d.2.1+(1:Int))),v1.2.2)).length:Nat):Int)then(((d.2.2.2.set d.2.2.1.toNat (((d.2.1.tmod (3:Int))==(0:Int)),v0.2)).set d.2.2.1.toNat (v1.1,(aa .i64 (d.2.1+(1:Int))),v1.2.2))[d.2.2.1.toNat]?).bind fun v3=>
 self ((),(aa .i64 ((aa .i64 ((aa .i64 (d.2.1+(1:Int)))+(1:Int)))+(1:Int))),(aa .i64 (d.2.2.1+(1:Int))),(((d.2.2.2.set d.2.2.1.toNat (((d.2.1.tmod (3:Int))==(0:Int)),v0.2)).set d.2.2.1.toNat (v1.1,(aa .i64 (d.2.1+(1:Int))),v1.2.2)).set d.2.2.1.toNat (v3.1,v3.2.1,v2)))else none)else none)else none)else none)else none)else none)else none)else some (d.2.1,d.2.2.2))
def yd(k:Nat)(x0:(List DStep))(x1:Int):Option (Int×(List DStep)):=
 iter k (iN k) ((),x1,(0:Int),x0)
theorem CS(k:Nat)(x0:(List DStep))(x1:Int):nk (k+1) (x0,x1)=yd k x0 x1:=by kernel_rfl
def iA(k:Nat)(self:_→Option Int)(d:((List DStep)×az)):=
 (bif (decide (d.2.2<(d.1.length:Int)))then(if 0≤d.2.2 then(d.1[d.2.2.toNat]?).bind fun v0=>
 (if((3:Int):Int)≠0 then(bif (v0.1 != ((d.2.1.tmod (3:Int))==(0:Int)))then some (-1:Int)else(if 0≤d.2.2 then(d.1[d.2.2.toNat]?).bind fun v1=>
 (bif (v1.2.1 != (aa .i64 (d.2.1+(1:Int))))then some (-1:Int)else(if 0≤d.2.2 then(d.1[d.2.2.toNat]?).bind fun v2=>
 (dn k (aa .i64 ((aa .i64 (d.2.1+(1:Int)))+(1:Int)))).bind fun v3=>
 (bif (!(lB v2.2.2 v3))then some (-1:Int)else self (d.1,(aa .i64 ((aa .i64 ((aa .i64 (d.2.1+(1:Int)))+(1:Int)))+(1:Int))),(aa .i64 (d.2.2+(1:Int)))))else none))else none))else none)else none)else some d.2.1)
def xY(k:Nat)(x0:(List DStep))(x1:Int):Option Int:=
 iter k (iA k) (x0,x1,(0:Int))
theorem CM(k:Nat)(x0:(List DStep))(x1:Int):jC (k+1) (x0,x1)=xY k x0 x1:=by kernel_rfl
def lF(k:Nat)(x0:aY)(x1:cQ):Option Bool:=
 (ny k (x0,(1048576:Int))).bind fun y1=>
 (bif (decide (y1<(0:Int)))then some true else(rV k (x1,y1)).bind fun y2=>
 (bif (decide (y2<(0:Int)))then some true else(eI k x0).bind fun y3=>
 (iZ k x1).bind fun y4=>
 (ln k (y3,y4)).bind fun y5=>
 (eI k x0).bind fun y6=>
 (iZ k x1).bind fun y7=>
 (gT k (y6,y7)).bind fun y8=>
 (iX k (y8,y5)).bind fun y9=>
 (bif (!y9)then some false else(eI k x0).bind fun y10=>
 (nC k (y6,y10)).bind fun y11=>
 (bif (!y11)then some false else(iZ k x1).bind fun y12=>
 (rJ k (y7,y12)).bind fun y13=>
 (bif (!y13)then some false else(lx k (y6,(1:Int))).bind fun y14=>
 (nZ k (y7,y14)).bind fun y15=>
 (bif (decide (y15<(0:Int)))then some false else(iX k (y8,y5)).bind fun y16=>
 (bif (!y16)then some false else(nk k (y8,(1:Int))).bind fun y17=>
 (jC k (y17.2,(1:Int))).bind fun y18=>
 (bif (decide (y18<(0:Int)))then some false else(bif (y18 != y17.1)then some false else(eI k x0).bind fun y19=>
 (iZ k x1).bind fun y20=>
 (gT k (y19,y20)).bind fun y21=>
 (iX k (y21,y5)).bind fun y22=>
 (bif (!y22)then some false else(jC k (y17.2,(1:Int))).bind fun y23=>
 (bif (decide (y23<(0:Int)))then some false else(bif (y23 != y17.1)then some false else some true))))))))))))
theorem pK(k:Nat)(x0:aY)(x1:cQ):kh (k+1) (x0,x1)=lF k x0 x1:=by kernel_rfl
end
end Go.Proofs.YtmmgfgfkkpeedaaGreat
