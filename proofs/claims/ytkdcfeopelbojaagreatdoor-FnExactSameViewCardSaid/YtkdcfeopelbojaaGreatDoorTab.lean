/- The tables, the residual functions and lemmas of this seat: parts of the proof of the law; conditions: those that each names. -/
import Derived.Test.YtkdcfeopelbojaaGreatDoorEng6
import Derived.KernelRfl
import Derived.Test.YtkdcfeopelbojaaGreatDoorProg
set_option maxRecDepth 100000
namespace Go.Proofs.YtkdcfeopelbojaaGreatDoor
open Go.Eng
abbrev aI:Type:=(Int×Int)
abbrev ar:Type:=(ByteArray×Int)
abbrev aj:Type:=(Int×aI)
abbrev aS:Type:=(Int×(Int×(List Int)))
abbrev Qj:Type:=(Int×(Int×(Bool×Int)))
abbrev QP:Type:=(Bool×(ByteArray×(Int×((List aj)×ByteArray))))
abbrev aE:Type:=(Int×(Int×(Int×(Int×(Int×(Int×(Int×((List Int)×((List aj)×(List aj))))))))))
abbrev bW:Type:=(Int×((List aI)×((List aE)×(List ByteArray))))
abbrev Td:Type:=((Option bW)×(aS×((List ByteArray)×Int)))
abbrev Kx:Ty:=(.pair .str (.int .u64))
abbrev jH:Ty:=(.pair .str (.int .i64))
abbrev PR:Ty:=(.pair (.int .u8) (.int .u8))
abbrev eK:Ty:=(.pair (.int .i64) (.int .i64))
abbrev aL:Ty:=(.pair (.int .i64) eK)
abbrev GF:Ty:=(.pair (.int .i64) (.pair (.int .i64) (.pair .bool (.int .u8))))
abbrev O1:Ty:=(.pair (.int .i64) (.pair (.int .i64) (.list true (.int .i64))))
abbrev df:Ty:=(.pair (.int .i64) (.pair (.int .i64) (.list false (.int .i64))))
abbrev PU:Ty:=(.pair .bool (.pair .str (.pair (.int .i64) (.pair (.list true aL) .str))))
abbrev PQ:Ty:=(.pair .bool (.pair .str (.pair (.int .i64) (.pair (.list false aL) .str))))
abbrev Jh:Ty:=(.pair (.int .i64) (.pair (.int .i64) (.pair (.int .i64) (.pair (.int .i64) (.pair (.int .i64) (.pair (.int .i64) (.pair (.int .i64) (.pair (.list true (.int .i64)) (.pair (.list true aL) (.list true aL))))))))))
abbrev cK:Ty:=(.pair (.int .i64) (.pair (.int .i64) (.pair (.int .i64) (.pair (.int .i64) (.pair (.int .i64) (.pair (.int .i64) (.pair (.int .i64) (.pair (.list false (.int .i64)) (.pair (.list false aL) (.list false aL))))))))))
abbrev S9:Ty:=(.pair (.int .i64) (.pair (.list true eK) (.pair (.list true Jh) (.list true .str))))
abbrev dX:Ty:=(.pair (.int .i64) (.pair (.list false eK) (.pair (.list false cK) (.list false .str))))
abbrev SQ:Ty:=(.pair (.ptr dX) (.pair O1 (.pair (.list true .str) (.int .i64))))
abbrev SY:Ty:=(.pair (.ptr dX) (.pair df (.pair (.list false .str) (.int .i64))))
abbrev fG:bu:=⟨[.val dX,.val dX,.val df],[.bool],none⟩
abbrev Dc:bu:=⟨[.val dX,.val (.int .i64)],[(.int .i64)],none⟩
abbrev xl:bu:=⟨[.val df,.val (.int .i64)],[(.int .i64)],none⟩
abbrev xh:bu:=⟨[.val dX,.val df],[(.list true .str)],none⟩
abbrev Cu:bu:=⟨[.val dX],[S9],none⟩
abbrev xS:bu:=⟨[.val df],[O1],none⟩
abbrev ya:bu:=⟨[.val dX,.val df],[(.list true .str)],none⟩
abbrev qI:bu:=⟨[.val (.list false .str),.val (.list false .str)],[.bool],none⟩
abbrev CH:bu:=⟨[.val dX,.val dX],[.bool],none⟩
abbrev xU:bu:=⟨[.val df,.val df],[.bool],none⟩
abbrev tg:bu:=⟨[.val dX,.val dX,.val df],[.bool],none⟩
abbrev tK:bu:=⟨[.val dX,.val dX,.val df],[.bool],none⟩
abbrev sS:bu:=⟨[.val (.list false eK),.val (.int .i64)],[(.int .i64)],none⟩
abbrev tv:bu:=⟨[.val (.list false cK),.val (.int .i64)],[(.int .i64)],none⟩
abbrev rl:bu:=⟨[.val (.list false .str),.val (.int .i64)],[(.int .i64)],none⟩
abbrev ye:bu:=⟨[.val (.list false (.int .i64)),.val (.int .i64)],[(.int .i64)],none⟩
abbrev CM:bu:=⟨[.val dX],[.bool],none⟩
abbrev xP:bu:=⟨[.val df],[.bool],none⟩
abbrev pa:bu:=⟨[.val dX,.val df],[(.list true (.int .i64))],none⟩
abbrev q0:bu:=⟨[.val (.int .i64)],[.str],none⟩
abbrev uh:bu:=⟨[.val cK],[.str],none⟩
abbrev xQ:bu:=⟨[.val dX,.val df,.val (.int .i64),.val (.int .i64)],[.bool],none⟩
abbrev CN:bu:=⟨[.val (.list false .str),.val .str],[.str],none⟩
abbrev tA:bu:=⟨[.val (.list false jH)],[(.list true .str)],none⟩
abbrev oT:bu:=⟨[.val dX,.val (.int .i64)],[(.list true jH)],none⟩
abbrev Ae:bu:=⟨[.val .str],[.str],none⟩
abbrev vW:bu:=⟨[.val dX,.val cK],[.str],none⟩
abbrev rF:bu:=⟨[.val dX,.val (.int .i64)],[.str],none⟩
abbrev sU:bu:=⟨[.val (.list false eK)],[(.list true eK)],none⟩
abbrev tf:bu:=⟨[.val (.list false cK)],[(.list true Jh)],none⟩
abbrev qZ:bu:=⟨[.val (.list false .str)],[(.list true .str)],none⟩
abbrev xm:bu:=⟨[.val (.list false (.int .i64))],[(.list true (.int .i64))],none⟩
abbrev C5:bu:=⟨[.val dX],[.bool],none⟩
abbrev xp:bu:=⟨[.val df],[.bool],none⟩
abbrev mw:bu:=⟨[.val dX,.val df],[(.list true (.int .i64))],none⟩
abbrev qK:bu:=⟨[.val (.int .i64)],[.str],none⟩
abbrev u6:bu:=⟨[.val (.ptr dX),.val (.int .i64)],[.str],none⟩
abbrev xO:bu:=⟨[.val (.ptr dX),.val df,.val (.int .i64),.val (.int .i64)],[.bool],none⟩
abbrev tQ:bu:=⟨[.val (.ptr dX),.val (.int .i64)],[.str],none⟩
abbrev rC:bu:=⟨[.val dX,.val (.int .i64)],[.str],none⟩
abbrev sP:bu:=⟨[.val (.list false eK),.val (.list false eK)],[.bool],none⟩
abbrev tJ:bu:=⟨[.val (.list false cK),.val (.list false cK)],[.bool],none⟩
abbrev xK:bu:=⟨[.val (.list false (.int .i64)),.val (.list false (.int .i64))],[.bool],none⟩
abbrev sR:bu:=⟨[.val (.list false .str),.val (.list false .str)],[.bool],none⟩
abbrev fV:bu:=⟨[.val (.list false .str),.val (.list false .str)],[.bool],none⟩
abbrev tN:bu:=⟨[.val (.ptr dX),.val (.int .i64)],[.bool],none⟩
abbrev Ct:bu:=⟨[.val (.list false .str),.val .str],[.str],none⟩
abbrev uF:bu:=⟨[.val cK,.val (.int .i64)],[(.int .i64)],none⟩
abbrev An:bu:=⟨[.val (.int .i64),.val (.int .i64),.val (.int .i64)],[.bool],none⟩
abbrev uz:bu:=⟨[.val cK],[.bool],none⟩
abbrev uu:bu:=⟨[.val dX],[(.list true .bool),.bool],none⟩
abbrev tw:bu:=⟨[.val .str],[.bool],none⟩
abbrev vh:bu:=⟨[.val (.int .i64)],[.bool],none⟩
abbrev tD:bu:=⟨[.val dX,.val df],[(.list true .bool)],none⟩
abbrev oM:bu:=⟨[.val (.int .i64)],[.str],none⟩
abbrev qA:bu:=⟨[.val (.list false aL)],[.str],none⟩
abbrev vP:bu:=⟨[.val df,.val (.int .i64),.val (.int .i64),.val (.int .i64),.val (.list false aL),.val (.int .i64)],[.bool],none⟩
abbrev qz:bu:=⟨[.val .str,.val (.int .i64),.val (.int .i64)],[(.int .i64),.bool],none⟩
abbrev oB:bu:=⟨[.val .str],[.bool],none⟩
abbrev qm:bu:=⟨[.val jH],[.str],none⟩
abbrev Ai:bu:=⟨[.val .str,.val (.int .i64)],[.str],none⟩
abbrev rE:bu:=⟨[.val dX,.val (.int .i64)],[(.int .i64)],none⟩
abbrev qw:bu:=⟨[.val dX,.val (.int .i64)],[(.int .i64)],none⟩
abbrev u7:bu:=⟨[.val eK],[eK],none⟩
abbrev vH:bu:=⟨[.val cK],[Jh],none⟩
abbrev uD:bu:=⟨[.val cK],[.bool],none⟩
abbrev oS:bu:=⟨[.val (.int .i64)],[(.int .i64)],none⟩
abbrev tB:bu:=⟨[.val .str],[.bool],none⟩
abbrev xq:bu:=⟨[.val (.int .i64)],[.bool],none⟩
abbrev o9:bu:=⟨[.val (.ptr dX),.val df],[(.arr 20 .bool)],none⟩
abbrev oh:bu:=⟨[.val (.int .i64)],[.str],none⟩
abbrev kM:bu:=⟨[.val (.int .i64)],[.str],none⟩
abbrev qe:bu:=⟨[.val (.list false aL)],[.str],none⟩
abbrev xV:bu:=⟨[.val (.ptr dX),.val (.int .i64)],[.bool],none⟩
abbrev uw:bu:=⟨[.val df,.val (.int .i64),.val (.int .i64),.val (.int .i64),.val (.list false aL),.val (.int .i64)],[.bool],none⟩
abbrev tL:bu:=⟨[.val (.ptr dX),.val (.int .i64)],[(.list true .str)],none⟩
abbrev zu:bu:=⟨[.val .str],[.str],none⟩
abbrev pz:bu:=⟨[.val (.ptr dX),.val (.int .i64)],[.str],none⟩
abbrev qi:bu:=⟨[.val (.ptr dX),.val (.int .i64)],[(.int .i64)],none⟩
abbrev qy:bu:=⟨[.val (.ptr dX),.val (.int .i64)],[(.int .i64)],none⟩
abbrev ui:bu:=⟨[.val eK,.val eK],[.bool],none⟩
abbrev uB:bu:=⟨[.val cK,.val cK],[.bool],none⟩
abbrev vS:bu:=⟨[.val dX,.val (.int .i64),.val .str],[(.int .i64),.bool],none⟩
abbrev vU:bu:=⟨[.val (.ptr dX),.val (.int .i64),.val .str],[(.int .i64),.bool],none⟩
abbrev oz:bu:=⟨[.val (.list false .str),.val .str],[.str],none⟩
abbrev nP:bu:=⟨[.val .str],[.bool],none⟩
abbrev n9:bu:=⟨[.val (.list false aL),.val (.int .i64)],[(.int .i64)],none⟩
abbrev qc:bu:=⟨[.val cK,.val cK],[.bool],none⟩
abbrev uq:bu:=⟨[.val (.int .i64)],[.bool],none⟩
abbrev nv:bu:=⟨[.val (.int .i64)],[(.int .i64)],none⟩
abbrev xR:bu:=⟨[.val (.list false (.int .i64)),.val (.int .i64)],[.bool],none⟩
abbrev AW:bu:=⟨[.val (.list false aL)],[.bool],none⟩
abbrev oW:bu:=⟨[.val (.int .i64)],[(.int .i64)],none⟩
abbrev yf:bu:=⟨[.val .bool,.val .str],[.str],none⟩
abbrev xD:bu:=⟨[.val (.int .i64),.val (.int .i64)],[(.int .i64)],none⟩
abbrev rb:bu:=⟨[.val (.int .i64),.val (.int .i64)],[.bool],none⟩
abbrev xc:bu:=⟨[.val (.list false aL)],[(.int .i64)],none⟩
abbrev uM:bu:=⟨[.val (.list false aL),.val (.int .i64),.val (.int .i64)],[(.int .i64),.bool],none⟩
abbrev vK:bu:=⟨[.val df,.val (.int .i64)],[.bool],none⟩
abbrev qg:bu:=⟨[.val (.int .i64),.val (.int .i64)],[.str],none⟩
abbrev oc:bu:=⟨[.val (.list false aL)],[(.list true aL)],none⟩
abbrev ri:bu:=⟨[.val cK,.val cK],[.bool],none⟩
abbrev xz:bu:=⟨[.val (.int .i64)],[.bool],none⟩
abbrev np:bu:=⟨[.val (.int .i64)],[(.int .i64)],none⟩
abbrev zX:bu:=⟨[.val (.list false aL)],[.bool],none⟩
abbrev iS:bu:=⟨[.val (.list false (.int .i64)),.val (.int .i64)],[.bool],none⟩
abbrev pf:bu:=⟨[.val (.ptr dX),.val (.int .i64)],[(.list true jH)],none⟩
abbrev xZ:bu:=⟨[.val (.int .i64),.val (.int .i64)],[(.int .i64)],none⟩
abbrev x8:bu:=⟨[.val (.list false aL)],[(.int .i64)],none⟩
abbrev u0:bu:=⟨[.val (.list false aL),.val (.int .i64),.val (.int .i64)],[(.int .i64),.bool],none⟩
abbrev u3:bu:=⟨[.val df,.val (.int .i64)],[.bool],none⟩
abbrev dK:bu:=⟨[],[],some (false,(.list true .str))⟩
abbrev Ad:bu:=⟨[.val (.int .i64)],[.str],none⟩
abbrev sW:bu:=⟨[.val (.ptr dX)],[(.list true .bool)],none⟩
abbrev nW:bu:=⟨[.val (.list false aL),.val (.list false aL)],[.bool],none⟩
abbrev gy:bu:=⟨[.val .str,.val .str],[.bool],none⟩
abbrev uS:bu:=⟨[.val (.list false (.int .i64)),.val (.list false (.int .i64))],[.bool],none⟩
abbrev uy:bu:=⟨[.val (.list false aL),.val (.list false aL)],[.bool],none⟩
abbrev s9:bu:=⟨[.val aL],[.bool],none⟩
abbrev ph:bu:=⟨[.val aL],[aL],none⟩
abbrev kx:bu:=⟨[.val (.list false (.int .i64)),.val (.list false (.int .i64))],[.bool],none⟩
abbrev cO:bu:=⟨[.val (.list false aL),.val (.list false aL)],[.bool],none⟩
abbrev AF:bu:=⟨[.val (.list false (.int .i64))],[(.int .i64)],none⟩
abbrev pg:bu:=⟨[.val (.int .i64),.val (.int .i64)],[(.int .i64)],none⟩
abbrev kJ:bu:=⟨[.val (.list false (.int .i64)),.val (.int .i64)],[(.int .i64)],none⟩
abbrev yd:bu:=⟨[.val .str,.val (.int .i64)],[(.list true .str)],none⟩
abbrev qD:bu:=⟨[.val .str,.val (.int .i64),.val (.int .i64)],[(.int .i64),.bool],none⟩
abbrev x9:bu:=⟨[.val jH],[.str],none⟩
abbrev py:bu:=⟨[.val cK],[(.list true (.int .i64))],none⟩
abbrev pA:bu:=⟨[.val aL,.val aL],[.bool],none⟩
abbrev sQ:bu:=⟨[.val (.int .i64)],[.bool],none⟩
abbrev AN:bu:=⟨[.val .str,.val (.int .i64)],[.str],none⟩
abbrev qh:bu:=⟨[.val (.int .i64),.val (.int .i64)],[.str],none⟩
abbrev lM:bu:=⟨[.val .str,.val (.int .i64)],[.str],none⟩
noncomputable def exts:List Ry:=[⟨106,oh,dU⟩,⟨107,kM,cR⟩,⟨128,oz,dS⟩,⟨178,dK,bA⟩,⟨183,gy,bK⟩,⟨277,lM,da⟩]
noncomputable def RS:Ru:={
 ty:=[(2,(.int .i64)),(3,(.int .i64)),(4,.bool),(5,(.int .u8)),(8,GF),(9,.str),(22,(.list false eK)),(23,(.list false cK)),(24,(.list false .str)),(26,dX),(27,(.list false (.int .i64))),(29,df),(33,(.list false eK)),(34,(.list false cK)),(36,dX),(38,df),(61,(.list false aL)),(63,cK),(69,(.list false jH)),(91,(.ptr dX)),(106,(.list false aL)),(108,cK),(111,eK),(113,(.list false .bool)),(118,(.list false (.int .u8))),(122,jH),(128,eK),(130,(.arr 56 .bool)),(132,(.arr 20 .bool)),(164,aL),(174,(.int .u64)),(204,aL)],
 nf:=[(8,4),(26,4),(29,3),(36,4),(38,3),(63,10),(108,10),(111,2),(122,2),(128,2),(164,3),(204,3)],
 el:=[(24,9,16),(27,3,8),(33,111,16),(34,63,128),(61,164,24),(69,122,24),(113,4,1),(118,5,1)],
 PT:=[1,89],
 eqs:=[8,111,122,128,164,204],
 sig:=[(4,fG),(7,Dc),(8,xl),(9,xh),(10,Cu),(11,xS),(12,ya),(13,qI),(14,CH),(15,xU),(20,tg),(21,tK),(27,sS),(28,tv),(29,rl),(30,ye),(31,CM),(32,xP),(33,pa),(34,q0),(35,uh),(36,xQ),(37,CN),(38,tA),(39,oT),(40,Ae),(41,vW),(42,rF),(43,sU),(44,tf),(45,qZ),(46,xm),(47,C5),(48,xp),(49,mw),(50,qK),(51,u6),(52,xO),(53,tQ),(54,rC),(55,sP),(56,tJ),(57,xK),(62,sR),(63,fV),(68,tN),(70,Ct),(83,uF),(84,An),(85,uz),(86,uu),(87,tw),(88,vh),(89,tD),(90,oM),(91,qA),(92,vP),(93,qz),(94,oB),(95,qm),(96,Ai),(97,rE),(98,qw),(99,u7),(100,vH),(101,uD),(102,oS),(103,tB),(104,xq),(105,o9),(106,oh),(107,kM),(108,qe),(109,xV),(110,uw),(111,tL),(112,zu),(113,pz),(114,qi),(115,qy),(116,ui),(117,uB),(120,vS),(125,vU),(128,oz),(144,nP),(150,n9),(151,qc),(152,uq),(153,nv),(154,xR),(155,AW),(156,oW),(157,yf),(158,xD),(159,rb),(160,xc),(161,uM),(162,vK),(163,qg),(164,oc),(165,ri),(166,xz),(167,np),(168,zX),(169,iS),(170,pf),(173,xZ),(174,x8),(175,u0),(176,u3),(178,dK),(179,Ad),(180,sW),(181,nW),(183,gy),(215,uS),(216,uy),(217,s9),(218,ph),(219,kx),(220,cO),(221,AF),(222,pg),(223,kJ),(224,yd),(225,qD),(226,x9),(231,py),(232,pA),(249,sQ),(250,AN),(251,qh),(277,lM)],
 body:=[(4,Tryz.f4),(7,Tryz.f7),(8,Tryz.f8),(9,Tryz.f9),(10,Tryz.f10),(11,Tryz.f11),(12,Tryz.f12),(13,Tryz.f13),(14,Tryz.f14),(15,Tryz.f15),(20,Tryz.f20),(21,Tryz.f21),(27,Tryz.f27),(28,Tryz.f28),(29,Tryz.f29),(30,Tryz.f30),(31,Tryz.f31),(32,Tryz.f32),(33,Tryz.f33),(34,Tryz.f34),(35,Tryz.f35),(36,Tryz.f36),(37,Tryz.f37),(38,Tryz.f38),(39,Tryz.f39),(40,Tryz.f40),(41,Tryz.f41),(42,Tryz.f42),(43,Tryz.f43),(44,Tryz.f44),(45,Tryz.f45),(46,Tryz.f46),(47,Tryz.f47),(48,Tryz.f48),(49,Tryz.f49),(50,Tryz.f50),(51,Tryz.f51),(52,Tryz.f52),(53,Tryz.f53),(54,Tryz.f54),(55,Tryz.f55),(56,Tryz.f56),(57,Tryz.f57),(62,Tryz.f62),(63,Tryz.f63),(68,Tryz.f68),(70,Tryz.f70),(83,Tryz.f83),(84,Tryz.f84),(85,Tryz.f85),(86,Tryz.f86),(87,Tryz.f87),(88,Tryz.f88),(89,Tryz.f89),(90,Tryz.f90),(91,Tryz.f91),(92,Tryz.f92),(93,Tryz.f93),(94,Tryz.f94),(95,Tryz.f95),(96,Tryz.f96),(97,Tryz.f97),(98,Tryz.f98),(99,Tryz.f99),(100,Tryz.f100),(101,Tryz.f101),(102,Tryz.f102),(103,Tryz.f103),(104,Tryz.f104),(105,Tryz.f105),(108,Tryz.f108),(109,Tryz.f109),(110,Tryz.f110),(111,Tryz.f111),(112,Tryz.f112),(113,Tryz.f113),(114,Tryz.f114),(115,Tryz.f115),(116,Tryz.f116),(117,Tryz.f117),(120,Tryz.f120),(125,Tryz.f125),(144,Tryz.f144),(150,Tryz.f150),(151,Tryz.f151),(152,Tryz.f152),(153,Tryz.f153),(154,Tryz.f154),(155,Tryz.f155),(156,Tryz.f156),(157,Tryz.f157),(158,Tryz.f158),(159,Tryz.f159),(160,Tryz.f160),(161,Tryz.f161),(162,Tryz.f162),(163,Tryz.f163),(164,Tryz.f164),(165,Tryz.f165),(166,Tryz.f166),(167,Tryz.f167),(168,Tryz.f168),(169,Tryz.f169),(170,Tryz.f170),(172,Tryz.f172),(173,Tryz.f173),(174,Tryz.f174),(175,Tryz.f175),(176,Tryz.f176),(177,Tryz.f177),(179,Tryz.f179),(180,Tryz.f180),(181,Tryz.f181),(215,Tryz.f215),(216,Tryz.f216),(217,Tryz.f217),(218,Tryz.f218),(219,Tryz.f219),(220,Tryz.f220),(221,Tryz.f221),(222,Tryz.f222),(223,Tryz.f223),(224,Tryz.f224),(225,Tryz.f225),(226,Tryz.f226),(228,Tryz.f228),(231,Tryz.f231),(232,Tryz.f232),(249,Tryz.f249),(250,Tryz.f250),(251,Tryz.f251)]}
noncomputable def E1:Env:=RS.env (Af exts)
noncomputable def H1:Nat→Hints:=fun f=>(Eng.look [(9,⟨fun r=>(Eng.look [(5,[(2,none),(3,none),(5,none),(21,none),(22,none),(23,none)])] r).getD [],fun r=>Eng.look [] r⟩),
 (12,⟨fun r=>(Eng.look [(5,[(2,none),(3,none),(5,none),(20,none),(21,none),(22,none)])] r).getD [],fun r=>Eng.look [] r⟩),
 (13,⟨fun r=>(Eng.look [(4,[(0,none),(1,none),(5,none)])] r).getD [],fun r=>Eng.look [] r⟩),
 (28,⟨fun r=>(Eng.look [(5,[(0,none),(1,none),(5,none)])] r).getD [],fun r=>Eng.look [] r⟩),
 (29,⟨fun r=>(Eng.look [(5,[(0,none),(1,none),(5,none)])] r).getD [],fun r=>Eng.look [] r⟩),
 (31,⟨fun r=>(Eng.look [(4,[(1,none),(37,none),(38,none),(39,none)]),(10,[(1,none),(55,none),(56,none),(57,none)]),(21,[(1,none),(7,none),(79,none),(80,none),(81,none)]),(27,[(1,none),(103,none),(104,none),(105,none)])] r).getD [],fun r=>Eng.look [] r⟩),
 (32,⟨fun r=>(Eng.look [(2,[(1,none),(6,none),(7,none),(8,none)])] r).getD [],fun r=>Eng.look [] r⟩),
 (33,⟨fun r=>(Eng.look [(3,[(5,none),(11,none),(12,none),(13,none)])] r).getD [],fun r=>Eng.look [] r⟩),
 (34,⟨fun r=>(Eng.look [(6,[(0,none),(3,none)])] r).getD [],fun r=>Eng.look [] r⟩),
 (35,⟨fun r=>(Eng.look [] r).getD [],fun r=>Eng.look [(4,[(1,none),(3,none)])] r⟩),
 (37,⟨fun r=>(Eng.look [(3,[(1,none),(5,none),(8,none),(9,none),(10,none)])] r).getD [],fun r=>Eng.look [] r⟩),
 (38,⟨fun r=>(Eng.look [(3,[(3,none),(9,none),(10,none),(11,none)]),(6,[(3,none),(5,none),(6,none),(9,none),(10,none),(11,none)])] r).getD [],fun r=>Eng.look [] r⟩),
 (39,⟨fun r=>(Eng.look [(4,[(5,none),(6,none),(7,none)])] r).getD [],fun r=>Eng.look [] r⟩),
 (40,⟨fun r=>(Eng.look [(3,[(0,none),(3,none),(4,none)])] r).getD [],fun r=>Eng.look [] r⟩),
 (41,⟨fun r=>(Eng.look [(3,[(2,none),(3,none),(5,none),(9,none),(10,none),(11,none)])] r).getD [],fun r=>Eng.look [] r⟩),
 (43,⟨fun r=>(Eng.look [(3,[(0,none),(3,none),(4,none)])] r).getD [],fun r=>Eng.look [] r⟩),
 (44,⟨fun r=>(Eng.look [(3,[(0,none),(3,none),(4,none)])] r).getD [],fun r=>Eng.look [] r⟩),
 (45,⟨fun r=>(Eng.look [(3,[(0,none),(3,none),(4,none)])] r).getD [],fun r=>Eng.look [] r⟩),
 (46,⟨fun r=>(Eng.look [(3,[(0,none),(3,none),(4,none)])] r).getD [],fun r=>Eng.look [] r⟩),
 (47,⟨fun r=>(Eng.look [(4,[(1,none),(42,none),(43,none),(44,none)]),(10,[(1,none),(68,none),(69,none),(70,none)]),(17,[(1,none),(7,none),(79,none),(80,none),(81,none)]),(22,[(1,none),(7,none),(9,none),(79,none),(80,none),(81,none),(89,none),(90,none),(91,none)]),(34,[(1,none),(7,none),(131,none),(132,none),(133,none)])] r).getD [],fun r=>Eng.look [] r⟩),
 (48,⟨fun r=>(Eng.look [(2,[(1,none),(6,none),(7,none),(8,none)])] r).getD [],fun r=>Eng.look [] r⟩),
 (49,⟨fun r=>(Eng.look [(5,[(5,none),(18,none),(19,none)])] r).getD [],fun r=>Eng.look [] r⟩),
 (51,⟨fun r=>(Eng.look [] r).getD [],fun r=>Eng.look [(4,[(5,none),(6,none)])] r⟩),
 (55,⟨fun r=>(Eng.look [(4,[(0,none),(1,none),(5,none)])] r).getD [],fun r=>Eng.look [] r⟩),
 (56,⟨fun r=>(Eng.look [(4,[(0,none),(1,none),(5,none)])] r).getD [],fun r=>Eng.look [] r⟩),
 (57,⟨fun r=>(Eng.look [(4,[(0,none),(1,none),(5,none)])] r).getD [],fun r=>Eng.look [] r⟩),
 (62,⟨fun r=>(Eng.look [(4,[(1,none),(12,none),(13,none),(14,none)])] r).getD [],fun r=>Eng.look [] r⟩),
 (63,⟨fun r=>(Eng.look [(4,[(0,none),(1,none),(12,none),(13,none)])] r).getD [],fun r=>Eng.look [] r⟩),
 (85,⟨fun r=>(Eng.look [(6,[(1,none),(65,none),(66,none),(67,none)])] r).getD [],fun r=>Eng.look [(5,[(1,none)]),(13,[(1,none)])] r⟩),
 (86,⟨fun r=>(Eng.look [(3,[(4,none),(11,none),(12,none),(13,none)]),(6,[(4,none),(6,none),(11,none),(12,none),(13,none),(18,none),(19,none),(20,none)])] r).getD [],fun r=>Eng.look [] r⟩),
 (87,⟨fun r=>(Eng.look [(2,[(0,none),(3,none)])] r).getD [],fun r=>Eng.look [] r⟩),
 (89,⟨fun r=>(Eng.look [(5,[(2,none),(3,none),(5,none),(6,none),(7,none)]),(9,[(2,none),(3,none),(5,none),(7,none),(8,none),(24,none),(25,none),(26,none)]),(13,[(2,none),(3,none),(5,none),(7,none),(8,none),(10,none),(24,none),(25,none),(26,none),(46,none),(47,none),(48,none)])] r).getD [],fun r=>Eng.look [] r⟩),
 (90,⟨fun r=>(Eng.look [(5,[(0,none),(3,none),(4,none)])] r).getD [],fun r=>Eng.look [] r⟩),
 (91,⟨fun r=>(Eng.look [(5,[(3,none),(10,none),(11,none),(12,none)])] r).getD [],fun r=>Eng.look [] r⟩),
 (92,⟨fun r=>(Eng.look [(17,[(3,none),(5,none),(6,none),(13,none),(16,none),(17,none),(81,none),(82,none),(83,none)])] r).getD [],fun r=>Eng.look [(16,[(3,none),(4,none),(5,none),(6,none),(13,none),(16,none),(17,none)])] r⟩),
 (93,⟨fun r=>(Eng.look [(5,[(0,none),(1,none),(2,none),(8,none),(9,none)])] r).getD [],fun r=>Eng.look [] r⟩),
 (94,⟨fun r=>(Eng.look [(4,[(0,none),(3,none)])] r).getD [],fun r=>Eng.look [] r⟩),
 (96,⟨fun r=>(Eng.look [(4,[(1,none),(5,none)])] r).getD [],fun r=>Eng.look [] r⟩),
 (97,⟨fun r=>(Eng.look [(3,[(1,none),(2,none),(5,none),(6,none)])] r).getD [],fun r=>Eng.look [] r⟩),
 (98,⟨fun r=>(Eng.look [(3,[(1,none),(5,none),(11,none),(12,none),(13,none)]),(6,[(1,none),(5,none),(11,none),(12,none),(13,none),(18,none),(19,none),(20,none)])] r).getD [],fun r=>Eng.look [] r⟩),
 (101,⟨fun r=>(Eng.look [(10,[(1,none),(83,none),(84,none),(85,none)])] r).getD [],fun r=>Eng.look [(7,[(1,none)])] r⟩),
 (103,⟨fun r=>(Eng.look [(2,[(0,none),(5,none),(6,none)])] r).getD [],fun r=>Eng.look [] r⟩),
 (105,⟨fun r=>(Eng.look [(4,[(0,none),(3,none),(4,none),(5,none),(6,none),(16,none)]),(8,[(0,none),(3,none),(4,none),(5,none),(6,none),(7,none),(8,none),(16,none),(19,none),(20,none)]),(14,[(0,none),(3,none),(4,none),(5,none),(6,none),(7,none),(8,none),(9,none),(16,none),(19,none),(20,none),(45,none),(46,none),(47,none)])] r).getD [],fun r=>Eng.look [] r⟩),
 (108,⟨fun r=>(Eng.look [(7,[(3,none),(13,none),(14,none),(15,none)])] r).getD [],fun r=>Eng.look [] r⟩),
 (110,⟨fun r=>(Eng.look [(16,[(3,none),(6,none),(13,none),(14,none),(17,none),(87,none),(88,none),(89,none)])] r).getD [],fun r=>Eng.look [(15,[(3,none),(4,none),(6,none),(13,none),(14,none),(17,none)])] r⟩),
 (111,⟨fun r=>(Eng.look [(3,[(5,none),(11,none),(12,none),(13,none)])] r).getD [],fun r=>Eng.look [] r⟩),
 (112,⟨fun r=>(Eng.look [(3,[(0,none),(3,none),(7,none),(8,none)])] r).getD [],fun r=>Eng.look [] r⟩),
 (113,⟨fun r=>(Eng.look [(3,[(0,none),(5,none),(6,none),(17,none),(18,none),(19,none)])] r).getD [],fun r=>Eng.look [] r⟩),
 (114,⟨fun r=>(Eng.look [(3,[(5,none),(17,none),(18,none),(19,none)])] r).getD [],fun r=>Eng.look [] r⟩),
 (115,⟨fun r=>(Eng.look [(3,[(5,none),(15,none),(16,none),(17,none)])] r).getD [],fun r=>Eng.look [] r⟩),
 (120,⟨fun r=>(Eng.look [(2,[(2,none),(12,none),(13,none),(14,none)])] r).getD [],fun r=>Eng.look [] r⟩),
 (125,⟨fun r=>(Eng.look [(2,[(2,none),(12,none),(13,none),(14,none)])] r).getD [],fun r=>Eng.look [] r⟩),
 (154,⟨fun r=>(Eng.look [(2,[(1,none),(7,none),(8,none),(9,none)])] r).getD [],fun r=>Eng.look [] r⟩),
 (155,⟨fun r=>(Eng.look [(2,[(0,none),(6,none),(7,none),(8,none)])] r).getD [],fun r=>Eng.look [] r⟩),
 (158,⟨fun r=>(Eng.look [(4,[(0,none),(5,none)])] r).getD [],fun r=>Eng.look [] r⟩),
 (160,⟨fun r=>(Eng.look [(2,[(5,none),(6,none),(7,none)])] r).getD [],fun r=>Eng.look [] r⟩),
 (161,⟨fun r=>(Eng.look [(2,[(1,none),(2,none),(10,none),(11,none),(12,none)])] r).getD [],fun r=>Eng.look [] r⟩),
 (163,⟨fun r=>(Eng.look [(5,[(0,none),(5,none),(6,none)])] r).getD [],fun r=>Eng.look [] r⟩),
 (164,⟨fun r=>(Eng.look [(3,[(0,none),(3,none),(4,none)])] r).getD [],fun r=>Eng.look [] r⟩),
 (168,⟨fun r=>(Eng.look [(4,[(0,none),(8,none),(9,none),(10,none)])] r).getD [],fun r=>Eng.look [(17,[(0,none),(3,none),(4,none),(8,none),(9,none),(10,none)])] r⟩),
 (170,⟨fun r=>(Eng.look [(3,[(5,none),(15,none),(16,none),(17,none)])] r).getD [],fun r=>Eng.look [] r⟩),
 (174,⟨fun r=>(Eng.look [(2,[(5,none),(6,none),(7,none)])] r).getD [],fun r=>Eng.look [] r⟩),
 (175,⟨fun r=>(Eng.look [(2,[(1,none),(2,none),(10,none),(11,none),(12,none)])] r).getD [],fun r=>Eng.look [] r⟩),
 (180,⟨fun r=>(Eng.look [(3,[(3,none),(12,none),(13,none),(14,none)]),(6,[(3,none),(12,none),(13,none),(14,none),(19,none),(20,none),(21,none)])] r).getD [],fun r=>Eng.look [] r⟩),
 (181,⟨fun r=>(Eng.look [(4,[(0,none),(1,none),(5,none)])] r).getD [],fun r=>Eng.look [] r⟩),
 (215,⟨fun r=>(Eng.look [(4,[(1,none),(12,none),(13,none),(14,none)])] r).getD [],fun r=>Eng.look [] r⟩),
 (216,⟨fun r=>(Eng.look [(4,[(1,none),(12,none),(13,none),(14,none)])] r).getD [],fun r=>Eng.look [] r⟩),
 (219,⟨fun r=>(Eng.look [(4,[(0,none),(1,none),(12,none),(13,none)])] r).getD [],fun r=>Eng.look [] r⟩),
 (220,⟨fun r=>(Eng.look [(4,[(0,none),(1,none),(12,none),(13,none)])] r).getD [],fun r=>Eng.look [] r⟩),
 (221,⟨fun r=>(Eng.look [(3,[(3,none),(6,none),(7,none),(8,none)])] r).getD [],fun r=>Eng.look [] r⟩),
 (223,⟨fun r=>(Eng.look [(2,[(0,none),(1,none),(7,none),(8,none)])] r).getD [],fun r=>Eng.look [] r⟩),
 (224,⟨fun r=>(Eng.look [(4,[(0,none),(1,none),(5,none)])] r).getD [],fun r=>Eng.look [] r⟩),
 (225,⟨fun r=>(Eng.look [(5,[(0,none),(1,none),(8,none),(28,none),(29,none)])] r).getD [],fun r=>Eng.look [] r⟩),
 (228,⟨fun r=>(Eng.look [(2,[(0,none),(1,none),(7,none),(8,none)])] r).getD [],fun r=>Eng.look [] r⟩),
 (231,⟨fun r=>(Eng.look [(3,[(3,none),(8,none),(9,none),(10,none)])] r).getD [],fun r=>Eng.look [] r⟩),
 (251,⟨fun r=>(Eng.look [(5,[(0,none),(5,none),(6,none)])] r).getD [],fun r=>Eng.look [] r⟩)] f).getD ⟨fun _=>[],fun _=>none⟩
noncomputable def ky(k:Nat)(x:(bW×(bW×aS))):Option Bool:=aO E1 H1 k 4 fG x
noncomputable def oO(k:Nat)(x:(bW×Int)):Option Int:=aO E1 H1 k 7 Dc x
noncomputable def pS(k:Nat)(x:(aS×Int)):Option Int:=aO E1 H1 k 8 xl x
noncomputable def lX(k:Nat)(x:(bW×aS)):Option (List ByteArray):=aO E1 H1 k 9 xh x
noncomputable def fA(k:Nat)(x:bW):Option bW:=aO E1 H1 k 10 Cu x
noncomputable def iX(k:Nat)(x:aS):Option aS:=aO E1 H1 k 11 xS x
noncomputable def lT(k:Nat)(x:(bW×aS)):Option (List ByteArray):=aO E1 H1 k 12 ya x
noncomputable def lB(k:Nat)(x:((List ByteArray)×(List ByteArray))):Option Bool:=aO E1 H1 k 13 qI x
noncomputable def pC(k:Nat)(x:(bW×bW)):Option Bool:=aO E1 H1 k 14 CH x
noncomputable def pZ(k:Nat)(x:(aS×aS)):Option Bool:=aO E1 H1 k 15 xU x
noncomputable def mQ(k:Nat)(x:(bW×(bW×aS))):Option Bool:=aO E1 H1 k 20 tg x
noncomputable def mJ(k:Nat)(x:(bW×(bW×aS))):Option Bool:=aO E1 H1 k 21 tK x
noncomputable def mZ(k:Nat)(x:((List aI)×Int)):Option Int:=aO E1 H1 k 27 sS x
noncomputable def mU(k:Nat)(x:((List aE)×Int)):Option Int:=aO E1 H1 k 28 tv x
noncomputable def k8(k:Nat)(x:((List ByteArray)×Int)):Option Int:=aO E1 H1 k 29 rl x
noncomputable def lV(k:Nat)(x:((List Int)×Int)):Option Int:=aO E1 H1 k 30 ye x
noncomputable def jY(k:Nat)(x:bW):Option Bool:=aO E1 H1 k 31 CM x
noncomputable def je(k:Nat)(x:aS):Option Bool:=aO E1 H1 k 32 xP x
noncomputable def kv(k:Nat)(x:(bW×aS)):Option (List Int):=aO E1 H1 k 33 pa x
noncomputable def aZ(k:Nat)(x:Int):Option ByteArray:=aO E1 H1 k 34 q0 x
noncomputable def ow(k:Nat)(x:aE):Option ByteArray:=aO E1 H1 k 35 uh x
noncomputable def eQ(k:Nat)(x:(bW×(aS×aI))):Option Bool:=aO E1 H1 k 36 xQ x
noncomputable def mg(k:Nat)(x:((List ByteArray)×ByteArray)):Option ByteArray:=aO E1 H1 k 37 CN x
noncomputable def nc(k:Nat)(x:(List ar)):Option (List ByteArray):=aO E1 H1 k 38 tA x
noncomputable def eH(k:Nat)(x:(bW×Int)):Option (List ar):=aO E1 H1 k 39 oT x
noncomputable def so(k:Nat)(x:ByteArray):Option ByteArray:=aO E1 H1 k 40 Ae x
noncomputable def kf(k:Nat)(x:(bW×aE)):Option ByteArray:=aO E1 H1 k 41 vW x
noncomputable def ik(k:Nat)(x:(bW×Int)):Option ByteArray:=aO E1 H1 k 42 rF x
noncomputable def mM(k:Nat)(x:(List aI)):Option (List aI):=aO E1 H1 k 43 sU x
noncomputable def mS(k:Nat)(x:(List aE)):Option (List aE):=aO E1 H1 k 44 tf x
noncomputable def lh(k:Nat)(x:(List ByteArray)):Option (List ByteArray):=aO E1 H1 k 45 qZ x
noncomputable def lR(k:Nat)(x:(List Int)):Option (List Int):=aO E1 H1 k 46 xm x
noncomputable def fy(k:Nat)(x:bW):Option Bool:=aO E1 H1 k 47 C5 x
noncomputable def eT(k:Nat)(x:aS):Option Bool:=aO E1 H1 k 48 xp x
noncomputable def gZ(k:Nat)(x:(bW×aS)):Option (List Int):=aO E1 H1 k 49 mw x
noncomputable def bn(k:Nat)(x:Int):Option ByteArray:=aO E1 H1 k 50 qK x
noncomputable def oJ(k:Nat)(x:((Option bW)×Int)):Option ByteArray:=aO E1 H1 k 51 u6 x
noncomputable def jb(k:Nat)(x:((Option bW)×(aS×aI))):Option Bool:=aO E1 H1 k 52 xO x
noncomputable def mN(k:Nat)(x:((Option bW)×Int)):Option ByteArray:=aO E1 H1 k 53 tQ x
noncomputable def iM(k:Nat)(x:(bW×Int)):Option ByteArray:=aO E1 H1 k 54 rC x
noncomputable def mW(k:Nat)(x:((List aI)×(List aI))):Option Bool:=aO E1 H1 k 55 sP x
noncomputable def mY(k:Nat)(x:((List aE)×(List aE))):Option Bool:=aO E1 H1 k 56 tJ x
noncomputable def lY(k:Nat)(x:((List Int)×(List Int))):Option Bool:=aO E1 H1 k 57 xK x
noncomputable def mX(k:Nat)(x:((List ByteArray)×(List ByteArray))):Option Bool:=aO E1 H1 k 62 sR x
noncomputable def dq(k:Nat)(x:((List ByteArray)×(List ByteArray))):Option Bool:=aO E1 H1 k 63 fV x
noncomputable def js(k:Nat)(x:((Option bW)×Int)):Option Bool:=aO E1 H1 k 68 tN x
noncomputable def mA(k:Nat)(x:((List ByteArray)×ByteArray)):Option ByteArray:=aO E1 H1 k 70 Ct x
noncomputable def gW(k:Nat)(x:(aE×Int)):Option Int:=aO E1 H1 k 83 uF x
noncomputable def aQ(k:Nat)(x:aj):Option Bool:=aO E1 H1 k 84 An x
noncomputable def og(k:Nat)(x:aE):Option Bool:=aO E1 H1 k 85 uz x
noncomputable def od(k:Nat)(x:bW):Option ((List Bool)×Bool):=aO E1 H1 k 86 uu x
noncomputable def jt(k:Nat)(x:ByteArray):Option Bool:=aO E1 H1 k 87 tw x
noncomputable def bD(k:Nat)(x:Int):Option Bool:=aO E1 H1 k 88 vh x
noncomputable def fT(k:Nat)(x:(bW×aS)):Option (List Bool):=aO E1 H1 k 89 tD x
noncomputable def kP(k:Nat)(x:Int):Option ByteArray:=aO E1 H1 k 90 oM x
noncomputable def iI(k:Nat)(x:(List aj)):Option ByteArray:=aO E1 H1 k 91 qA x
noncomputable def oq(k:Nat)(x:(aS×(Int×(Int×(Int×((List aj)×Int)))))):Option Bool:=aO E1 H1 k 92 vP x
noncomputable def lI(k:Nat)(x:(ByteArray×aI)):Option (Int×Bool):=aO E1 H1 k 93 qz x
noncomputable def jF(k:Nat)(x:ByteArray):Option Bool:=aO E1 H1 k 94 oB x
noncomputable def lz(k:Nat)(x:ar):Option ByteArray:=aO E1 H1 k 95 qm x
noncomputable def kO(k:Nat)(x:ar):Option ByteArray:=aO E1 H1 k 96 Ai x
noncomputable def lx(k:Nat)(x:(bW×Int)):Option Int:=aO E1 H1 k 97 rE x
noncomputable def lN(k:Nat)(x:(bW×Int)):Option Int:=aO E1 H1 k 98 qw x
noncomputable def kz(k:Nat)(x:aI):Option aI:=aO E1 H1 k 99 u7 x
noncomputable def kK(k:Nat)(x:aE):Option aE:=aO E1 H1 k 100 vH x
noncomputable def nL(k:Nat)(x:aE):Option Bool:=aO E1 H1 k 101 uD x
noncomputable def kb(k:Nat)(x:Int):Option Int:=aO E1 H1 k 102 oS x
noncomputable def jk(k:Nat)(x:ByteArray):Option Bool:=aO E1 H1 k 103 tB x
noncomputable def bT(k:Nat)(x:Int):Option Bool:=aO E1 H1 k 104 xq x
noncomputable def eJ(k:Nat)(x:((Option bW)×aS)):Option (List Bool):=aO E1 H1 k 105 o9 x
noncomputable def vd(k:Nat)(x:Int):Option ByteArray:=aO E1 H1 k 106 oh x
noncomputable def ko(k:Nat)(x:Int):Option ByteArray:=aO E1 H1 k 107 kM x
noncomputable def iz(k:Nat)(x:(List aj)):Option ByteArray:=aO E1 H1 k 108 qe x
noncomputable def ji(k:Nat)(x:((Option bW)×Int)):Option Bool:=aO E1 H1 k 109 xV x
noncomputable def n6(k:Nat)(x:(aS×(Int×(Int×(Int×((List aj)×Int)))))):Option Bool:=aO E1 H1 k 110 uw x
noncomputable def mP(k:Nat)(x:((Option bW)×Int)):Option (List ByteArray):=aO E1 H1 k 111 tL x
noncomputable def sr(k:Nat)(x:ByteArray):Option ByteArray:=aO E1 H1 k 112 zu x
noncomputable def gz(k:Nat)(x:((Option bW)×Int)):Option ByteArray:=aO E1 H1 k 113 pz x
noncomputable def lj(k:Nat)(x:((Option bW)×Int)):Option Int:=aO E1 H1 k 114 qi x
noncomputable def k9(k:Nat)(x:((Option bW)×Int)):Option Int:=aO E1 H1 k 115 qy x
noncomputable def ku(k:Nat)(x:(aI×aI)):Option Bool:=aO E1 H1 k 116 ui x
noncomputable def kN(k:Nat)(x:(aE×aE)):Option Bool:=aO E1 H1 k 117 uB x
noncomputable def ot(k:Nat)(x:(bW×(Int×ByteArray))):Option (Int×Bool):=aO E1 H1 k 120 vS x
noncomputable def oF(k:Nat)(x:((Option bW)×(Int×ByteArray))):Option (Int×Bool):=aO E1 H1 k 125 vU x
noncomputable def vj(k:Nat)(x:((List ByteArray)×ByteArray)):Option ByteArray:=aO E1 H1 k 128 oz x
noncomputable def jz(k:Nat)(x:ByteArray):Option Bool:=aO E1 H1 k 144 nP x
noncomputable def fC(k:Nat)(x:((List aj)×Int)):Option Int:=aO E1 H1 k 150 n9 x
noncomputable def lE(k:Nat)(x:(aE×aE)):Option Bool:=aO E1 H1 k 151 qc x
noncomputable def de(k:Nat)(x:Int):Option Bool:=aO E1 H1 k 152 uq x
noncomputable def dD(k:Nat)(x:Int):Option Int:=aO E1 H1 k 153 nv x
noncomputable def l3(k:Nat)(x:((List Int)×Int)):Option Bool:=aO E1 H1 k 154 xR x
noncomputable def iE(k:Nat)(x:(List aj)):Option Bool:=aO E1 H1 k 155 AW x
noncomputable def gE(k:Nat)(x:Int):Option Int:=aO E1 H1 k 156 oW x
noncomputable def eX(k:Nat)(x:(Bool×ByteArray)):Option ByteArray:=aO E1 H1 k 157 yf x
noncomputable def eR(k:Nat)(x:aI):Option Int:=aO E1 H1 k 158 xD x
noncomputable def cI(k:Nat)(x:aI):Option Bool:=aO E1 H1 k 159 rb x
noncomputable def pM(k:Nat)(x:(List aj)):Option Int:=aO E1 H1 k 160 xc x
noncomputable def oa(k:Nat)(x:((List aj)×aI)):Option (Int×Bool):=aO E1 H1 k 161 uM x
noncomputable def kH(k:Nat)(x:(aS×Int)):Option Bool:=aO E1 H1 k 162 vK x
noncomputable def ix(k:Nat)(x:aI):Option ByteArray:=aO E1 H1 k 163 qg x
noncomputable def fR(k:Nat)(x:(List aj)):Option (List aj):=aO E1 H1 k 164 oc x
noncomputable def lq(k:Nat)(x:(aE×aE)):Option Bool:=aO E1 H1 k 165 ri x
noncomputable def jj(k:Nat)(x:Int):Option Bool:=aO E1 H1 k 166 xz x
noncomputable def iU(k:Nat)(x:Int):Option Int:=aO E1 H1 k 167 np x
noncomputable def ir(k:Nat)(x:(List aj)):Option Bool:=aO E1 H1 k 168 zX x
noncomputable def cW(k:Nat)(x:((List Int)×Int)):Option Bool:=aO E1 H1 k 169 iS x
noncomputable def eL(k:Nat)(x:((Option bW)×Int)):Option (List ar):=aO E1 H1 k 170 pf x
noncomputable def iZ(k:Nat)(x:aI):Option Int:=aO E1 H1 k 173 xZ x
noncomputable def pL(k:Nat)(x:(List aj)):Option Int:=aO E1 H1 k 174 x8 x
noncomputable def oC(k:Nat)(x:((List aj)×aI)):Option (Int×Bool):=aO E1 H1 k 175 u0 x
noncomputable def kk(k:Nat)(x:(aS×Int)):Option Bool:=aO E1 H1 k 176 u3 x
noncomputable def dG(k:Nat)(x:(List ByteArray)):Option (List ByteArray):=aO E1 H1 k 178 dK x
noncomputable def rJ(k:Nat)(x:Int):Option ByteArray:=aO E1 H1 k 179 Ad x
noncomputable def nb(k:Nat)(x:(Option bW)):Option (List Bool):=aO E1 H1 k 180 sW x
noncomputable def fO(k:Nat)(x:((List aj)×(List aj))):Option Bool:=aO E1 H1 k 181 nW x
noncomputable def gx(k:Nat)(x:(ByteArray×ByteArray)):Option Bool:=aO E1 H1 k 183 gy x
noncomputable def nU(k:Nat)(x:((List Int)×(List Int))):Option Bool:=aO E1 H1 k 215 uS x
noncomputable def kg(k:Nat)(x:((List aj)×(List aj))):Option Bool:=aO E1 H1 k 216 uy x
noncomputable def mL(k:Nat)(x:aj):Option Bool:=aO E1 H1 k 217 s9 x
noncomputable def gL(k:Nat)(x:aj):Option aj:=aO E1 H1 k 218 ph x
noncomputable def fH(k:Nat)(x:((List Int)×(List Int))):Option Bool:=aO E1 H1 k 219 kx x
noncomputable def bw(k:Nat)(x:((List aj)×(List aj))):Option Bool:=aO E1 H1 k 220 cO x
noncomputable def sw(k:Nat)(x:(List Int)):Option Int:=aO E1 H1 k 221 AF x
noncomputable def gB(k:Nat)(x:aI):Option Int:=aO E1 H1 k 222 pg x
noncomputable def fM(k:Nat)(x:((List Int)×Int)):Option Int:=aO E1 H1 k 223 kJ x
noncomputable def pH(k:Nat)(x:ar):Option (List ByteArray):=aO E1 H1 k 224 yd x
noncomputable def lf(k:Nat)(x:(ByteArray×aI)):Option (Int×Bool):=aO E1 H1 k 225 qD x
noncomputable def p8(k:Nat)(x:ar):Option ByteArray:=aO E1 H1 k 226 x9 x
noncomputable def kL(k:Nat)(x:aE):Option (List Int):=aO E1 H1 k 231 py x
noncomputable def gS(k:Nat)(x:(aj×aj)):Option Bool:=aO E1 H1 k 232 pA x
noncomputable def jr(k:Nat)(x:Int):Option Bool:=aO E1 H1 k 249 sQ x
noncomputable def sy(k:Nat)(x:ar):Option ByteArray:=aO E1 H1 k 250 AN x
noncomputable def iH(k:Nat)(x:aI):Option ByteArray:=aO E1 H1 k 251 qh x
noncomputable def rj(k:Nat)(x:ar):Option ByteArray:=aO E1 H1 k 277 lM x
theorem yl(k:Nat)(x):vd (k+1) x=dU x:=by kernel_rfl
theorem ua(k:Nat)(x):ko (k+1) x=cR x:=by kernel_rfl
theorem yN(k:Nat)(x):vj (k+1) x=dS x:=by kernel_rfl
theorem kV(k:Nat)(x):dG (k+1) x=bA x:=by kernel_rfl
theorem oK(k:Nat)(x):gx (k+1) x=bK x:=by kernel_rfl
theorem uP(k:Nat)(x):rj (k+1) x=da x:=by kernel_rfl
end Go.Proofs.YtkdcfeopelbojaaGreatDoor
