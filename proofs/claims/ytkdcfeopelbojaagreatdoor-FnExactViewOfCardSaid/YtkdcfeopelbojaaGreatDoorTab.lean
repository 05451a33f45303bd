/- The tables, the residual functions and lemmas of this seat: parts of the proof of the law; conditions: those that each names. -/
import Derived.Test.YtkdcfeopelbojaaGreatDoorEng6
import Derived.KernelRfl
import Derived.Test.YtkdcfeopelbojaaGreatDoorProg
set_option maxRecDepth 100000
namespace Go.Proofs.YtkdcfeopelbojaaGreatDoor
open Go.Eng
abbrev aF:Type:=(Int×Int)
abbrev ar:Type:=(ByteArray×Int)
abbrev aj:Type:=(Int×aF)
abbrev aT:Type:=(Int×(Int×(List Int)))
abbrev QT:Type:=(Int×(Int×(Bool×Int)))
abbrev Rl:Type:=(Bool×(ByteArray×(Int×((List aj)×ByteArray))))
abbrev aA:Type:=(Int×(Int×(Int×(Int×(Int×(Int×(Int×((List Int)×((List aj)×(List aj))))))))))
abbrev ck:Type:=(Int×((List aF)×((List aA)×(List ByteArray))))
abbrev T5:Type:=((Option ck)×(aT×((List ByteArray)×Int)))
abbrev KB:Ty:=(.pair .str (.int .u64))
abbrev jO:Ty:=(.pair .str (.int .i64))
abbrev QM:Ty:=(.pair (.int .u8) (.int .u8))
abbrev ei:Ty:=(.pair (.int .i64) (.int .i64))
abbrev aK:Ty:=(.pair (.int .i64) ei)
abbrev Hq:Ty:=(.pair (.int .i64) (.pair (.int .i64) (.pair .bool (.int .u8))))
abbrev L0:Ty:=(.pair (.int .i64) (.pair (.int .i64) (.list true (.int .i64))))
abbrev dL:Ty:=(.pair (.int .i64) (.pair (.int .i64) (.list false (.int .i64))))
abbrev QK:Ty:=(.pair .bool (.pair .str (.pair (.int .i64) (.pair (.list true aK) .str))))
abbrev QR:Ty:=(.pair .bool (.pair .str (.pair (.int .i64) (.pair (.list false aK) .str))))
abbrev EI:Ty:=(.pair (.int .i64) (.pair (.int .i64) (.pair (.int .i64) (.pair (.int .i64) (.pair (.int .i64) (.pair (.int .i64) (.pair (.int .i64) (.pair (.list true (.int .i64)) (.pair (.list true aK) (.list true aK))))))))))
abbrev cL:Ty:=(.pair (.int .i64) (.pair (.int .i64) (.pair (.int .i64) (.pair (.int .i64) (.pair (.int .i64) (.pair (.int .i64) (.pair (.int .i64) (.pair (.list false (.int .i64)) (.pair (.list false aK) (.list false aK))))))))))
abbrev Tm:Ty:=(.pair (.int .i64) (.pair (.list true ei) (.pair (.list true EI) (.list true .str))))
abbrev fk:Ty:=(.pair (.int .i64) (.pair (.list false ei) (.pair (.list false cL) (.list false .str))))
abbrev TO:Ty:=(.pair (.ptr fk) (.pair L0 (.pair (.list true .str) (.int .i64))))
abbrev TJ:Ty:=(.pair (.ptr fk) (.pair dL (.pair (.list false .str) (.int .i64))))
abbrev ir:bt:=⟨[.val fk,.val dL],[.bool],none⟩
abbrev DE:bt:=⟨[.val fk,.val (.int .i64)],[(.int .i64)],none⟩
abbrev yB:bt:=⟨[.val dL,.val (.int .i64)],[(.int .i64)],none⟩
abbrev yA:bt:=⟨[.val fk,.val dL],[(.list true .str)],none⟩
abbrev Dz:bt:=⟨[.val fk],[Tm],none⟩
abbrev yi:bt:=⟨[.val dL],[L0],none⟩
abbrev yh:bt:=⟨[.val fk,.val dL],[(.list true .str)],none⟩
abbrev qE:bt:=⟨[.val (.list false .str),.val (.list false .str)],[.bool],none⟩
abbrev DV:bt:=⟨[.val fk,.val fk],[.bool],none⟩
abbrev yI:bt:=⟨[.val dL,.val dL],[.bool],none⟩
abbrev yc:bt:=⟨[.val Tm,.val (.int .i64)],[(.int .i64)],none⟩
abbrev tR:bt:=⟨[.val L0,.val (.int .i64)],[(.int .i64)],none⟩
abbrev oD:bt:=⟨[.val (.int .i64)],[(.int .i64)],some (false,(.list true .str))⟩
abbrev od:bt:=⟨[.val (.list false .str),.val (.int .i64)],[(.int .i64)],none⟩
abbrev uj:bt:=⟨[.val (.list false ei),.val (.int .i64)],[(.int .i64)],none⟩
abbrev uh:bt:=⟨[.val (.list false cL),.val (.int .i64)],[(.int .i64)],none⟩
abbrev qB:bt:=⟨[.val (.list false .str),.val (.int .i64)],[(.int .i64)],none⟩
abbrev yL:bt:=⟨[.val (.list false (.int .i64)),.val (.int .i64)],[(.int .i64)],none⟩
abbrev Dw:bt:=⟨[.val fk],[.bool],none⟩
abbrev yT:bt:=⟨[.val dL],[.bool],none⟩
abbrev pE:bt:=⟨[.val fk,.val dL],[(.list true (.int .i64))],none⟩
abbrev qv:bt:=⟨[.val (.int .i64)],[.str],none⟩
abbrev wo:bt:=⟨[.val cL],[.str],none⟩
abbrev yz:bt:=⟨[.val fk,.val dL,.val (.int .i64),.val (.int .i64)],[.bool],none⟩
abbrev Dh:bt:=⟨[.val (.list false .str),.val .str],[.str],none⟩
abbrev tX:bt:=⟨[.val (.list false jO)],[(.list true .str)],none⟩
abbrev pD:bt:=⟨[.val fk,.val (.int .i64)],[(.list true jO)],none⟩
abbrev Bd:bt:=⟨[.val .str],[.str],none⟩
abbrev vE:bt:=⟨[.val fk,.val cL],[.str],none⟩
abbrev qy:bt:=⟨[.val fk,.val (.int .i64)],[.str],none⟩
abbrev ua:bt:=⟨[.val (.list false ei)],[(.list true ei)],none⟩
abbrev tw:bt:=⟨[.val (.list false cL)],[(.list true EI)],none⟩
abbrev qS:bt:=⟨[.val (.list false .str)],[(.list true .str)],none⟩
abbrev ye:bt:=⟨[.val (.list false (.int .i64))],[(.list true (.int .i64))],none⟩
abbrev DR:bt:=⟨[.val fk],[.bool],none⟩
abbrev yU:bt:=⟨[.val dL],[.bool],none⟩
abbrev mq:bt:=⟨[.val fk,.val dL],[(.list true (.int .i64))],none⟩
abbrev qu:bt:=⟨[.val (.int .i64)],[.str],none⟩
abbrev wb:bt:=⟨[.val (.ptr fk),.val (.int .i64)],[.str],none⟩
abbrev yf:bt:=⟨[.val (.ptr fk),.val dL,.val (.int .i64),.val (.int .i64)],[.bool],none⟩
abbrev uo:bt:=⟨[.val (.ptr fk),.val (.int .i64)],[.str],none⟩
abbrev rJ:bt:=⟨[.val fk,.val (.int .i64)],[.str],none⟩
abbrev tn:bt:=⟨[.val (.list false ei),.val (.list false ei)],[.bool],none⟩
abbrev tY:bt:=⟨[.val (.list false cL),.val (.list false cL)],[.bool],none⟩
abbrev x9:bt:=⟨[.val (.list false (.int .i64)),.val (.list false (.int .i64))],[.bool],none⟩
abbrev pN:bt:=⟨[.val (.int .i64)],[(.int .i64)],some (false,(.list true ei))⟩
abbrev oZ:bt:=⟨[.val (.int .i64)],[(.int .i64)],some (false,(.list true EI))⟩
abbrev tv:bt:=⟨[.val (.int .i64)],[(.int .i64)],some (false,(.list true (.int .i64)))⟩
abbrev uq:bt:=⟨[.val (.int .i64)],[.str],none⟩
abbrev tU:bt:=⟨[.val (.ptr fk),.val (.int .i64)],[.bool],none⟩
abbrev C3:bt:=⟨[.val (.list false .str),.val .str],[.str],none⟩
abbrev vF:bt:=⟨[.val cL,.val (.int .i64)],[(.int .i64)],none⟩
abbrev Aj:bt:=⟨[.val (.int .i64),.val (.int .i64),.val (.int .i64)],[.bool],none⟩
abbrev uI:bt:=⟨[.val cL],[.bool],none⟩
abbrev vG:bt:=⟨[.val fk],[(.list true .bool),.bool],none⟩
abbrev uu:bt:=⟨[.val .str],[.bool],none⟩
abbrev vp:bt:=⟨[.val (.int .i64)],[.bool],none⟩
abbrev tI:bt:=⟨[.val fk,.val dL],[(.list true .bool)],none⟩
abbrev o4:bt:=⟨[.val (.int .i64)],[.str],none⟩
abbrev rV:bt:=⟨[.val (.list false aK)],[.str],none⟩
abbrev u7:bt:=⟨[.val dL,.val (.int .i64),.val (.int .i64),.val (.int .i64),.val (.list false aK),.val (.int .i64)],[.bool],none⟩
abbrev rQ:bt:=⟨[.val .str,.val (.int .i64),.val (.int .i64)],[(.int .i64),.bool],none⟩
abbrev og:bt:=⟨[.val .str],[.bool],none⟩
abbrev rS:bt:=⟨[.val jO],[.str],none⟩
abbrev AQ:bt:=⟨[.val .str,.val (.int .i64)],[.str],none⟩
abbrev rT:bt:=⟨[.val fk,.val (.int .i64)],[(.int .i64)],none⟩
abbrev qA:bt:=⟨[.val fk,.val (.int .i64)],[(.int .i64)],none⟩
abbrev uP:bt:=⟨[.val ei],[ei],none⟩
abbrev uM:bt:=⟨[.val cL],[EI],none⟩
abbrev wu:bt:=⟨[.val cL],[.bool],none⟩
abbrev pg:bt:=⟨[.val (.int .i64)],[(.int .i64)],none⟩
abbrev tN:bt:=⟨[.val .str],[.bool],none⟩
abbrev yS:bt:=⟨[.val (.int .i64)],[.bool],none⟩
abbrev pU:bt:=⟨[.val (.ptr fk),.val dL],[(.arr 20 .bool)],none⟩
abbrev oN:bt:=⟨[.val (.int .i64)],[.str],none⟩
abbrev kQ:bt:=⟨[.val (.int .i64)],[.str],none⟩
abbrev qO:bt:=⟨[.val (.list false aK)],[.str],none⟩
abbrev yK:bt:=⟨[.val (.ptr fk),.val (.int .i64)],[.bool],none⟩
abbrev vQ:bt:=⟨[.val dL,.val (.int .i64),.val (.int .i64),.val (.int .i64),.val (.list false aK),.val (.int .i64)],[.bool],none⟩
abbrev tW:bt:=⟨[.val (.ptr fk),.val (.int .i64)],[(.list true .str)],none⟩
abbrev BC:bt:=⟨[.val .str],[.str],none⟩
abbrev pF:bt:=⟨[.val (.ptr fk),.val (.int .i64)],[.str],none⟩
abbrev rI:bt:=⟨[.val (.ptr fk),.val (.int .i64)],[(.int .i64)],none⟩
abbrev qH:bt:=⟨[.val (.ptr fk),.val (.int .i64)],[(.int .i64)],none⟩
abbrev wB:bt:=⟨[.val ei,.val ei],[.bool],none⟩
abbrev vf:bt:=⟨[.val cL,.val cL],[.bool],none⟩
abbrev mE:bt:=⟨[.val (.int .i64)],[(.int .i64)],some (false,(.list true aK))⟩
abbrev uZ:bt:=⟨[.val fk,.val (.int .i64),.val .str],[(.int .i64),.bool],none⟩
abbrev vY:bt:=⟨[.val (.ptr fk),.val (.int .i64),.val .str],[(.int .i64),.bool],none⟩
abbrev nU:bt:=⟨[.val (.list false .str),.val .str],[.str],none⟩
abbrev oA:bt:=⟨[.val .str],[.bool],none⟩
abbrev oK:bt:=⟨[.val (.list false aK),.val (.int .i64)],[(.int .i64)],none⟩
abbrev qV:bt:=⟨[.val cL,.val cL],[.bool],none⟩
abbrev wc:bt:=⟨[.val (.int .i64)],[.bool],none⟩
abbrev nE:bt:=⟨[.val (.int .i64)],[(.int .i64)],none⟩
abbrev xZ:bt:=⟨[.val (.list false (.int .i64)),.val (.int .i64)],[.bool],none⟩
abbrev Ba:bt:=⟨[.val (.list false aK)],[.bool],none⟩
abbrev pQ:bt:=⟨[.val (.int .i64)],[(.int .i64)],none⟩
abbrev xO:bt:=⟨[.val .bool,.val .str],[.str],none⟩
abbrev yu:bt:=⟨[.val (.int .i64),.val (.int .i64)],[(.int .i64)],none⟩
abbrev ru:bt:=⟨[.val (.int .i64),.val (.int .i64)],[.bool],none⟩
abbrev yN:bt:=⟨[.val (.list false aK)],[(.int .i64)],none⟩
abbrev ve:bt:=⟨[.val (.list false aK),.val (.int .i64),.val (.int .i64)],[(.int .i64),.bool],none⟩
abbrev uU:bt:=⟨[.val dL,.val (.int .i64)],[.bool],none⟩
abbrev qN:bt:=⟨[.val (.int .i64),.val (.int .i64)],[.str],none⟩
abbrev oV:bt:=⟨[.val (.list false aK)],[(.list true aK)],none⟩
abbrev rO:bt:=⟨[.val cL,.val cL],[.bool],none⟩
abbrev yV:bt:=⟨[.val (.int .i64)],[.bool],none⟩
abbrev nD:bt:=⟨[.val (.int .i64)],[(.int .i64)],none⟩
abbrev AN:bt:=⟨[.val (.list false aK)],[.bool],none⟩
abbrev jd:bt:=⟨[.val (.list false (.int .i64)),.val (.int .i64)],[.bool],none⟩
abbrev pT:bt:=⟨[.val (.ptr fk),.val (.int .i64)],[(.list true jO)],none⟩
abbrev xP:bt:=⟨[.val (.int .i64),.val (.int .i64)],[(.int .i64)],none⟩
abbrev yR:bt:=⟨[.val (.list false aK)],[(.int .i64)],none⟩
abbrev wJ:bt:=⟨[.val (.list false aK),.val (.int .i64),.val (.int .i64)],[(.int .i64),.bool],none⟩
abbrev vb:bt:=⟨[.val dL,.val (.int .i64)],[.bool],none⟩
abbrev dE:bt:=⟨[],[],some (false,(.list true .str))⟩
abbrev A9:bt:=⟨[.val (.int .i64)],[.str],none⟩
abbrev uk:bt:=⟨[.val (.ptr fk)],[(.list true .bool)],none⟩
abbrev oI:bt:=⟨[.val (.list false aK),.val (.list false aK)],[.bool],none⟩
abbrev gG:bt:=⟨[.val .str,.val .str],[.bool],none⟩
abbrev wD:bt:=⟨[.val (.list false (.int .i64)),.val (.list false (.int .i64))],[.bool],none⟩
abbrev vu:bt:=⟨[.val (.list false aK),.val (.list false aK)],[.bool],none⟩
abbrev tV:bt:=⟨[.val aK],[.bool],none⟩
abbrev pS:bt:=⟨[.val aK],[aK],none⟩
abbrev kU:bt:=⟨[.val (.list false (.int .i64)),.val (.list false (.int .i64))],[.bool],none⟩
abbrev cS:bt:=⟨[.val (.list false aK),.val (.list false aK)],[.bool],none⟩
abbrev AT:bt:=⟨[.val (.list false (.int .i64))],[(.int .i64)],none⟩
abbrev po:bt:=⟨[.val (.int .i64),.val (.int .i64)],[(.int .i64)],none⟩
abbrev kp:bt:=⟨[.val (.list false (.int .i64)),.val (.int .i64)],[(.int .i64)],none⟩
abbrev ym:bt:=⟨[.val .str,.val (.int .i64)],[(.list true .str)],none⟩
abbrev rE:bt:=⟨[.val .str,.val (.int .i64),.val (.int .i64)],[(.int .i64),.bool],none⟩
abbrev yH:bt:=⟨[.val jO],[.str],none⟩
abbrev pa:bt:=⟨[.val cL],[(.list true (.int .i64))],none⟩
abbrev pC:bt:=⟨[.val aK,.val aK],[.bool],none⟩
abbrev tO:bt:=⟨[.val (.int .i64)],[.bool],none⟩
abbrev BQ:bt:=⟨[.val .str,.val (.int .i64)],[.str],none⟩
abbrev rD:bt:=⟨[.val (.int .i64),.val (.int .i64)],[.str],none⟩
abbrev lX:bt:=⟨[.val .str,.val (.int .i64)],[.str],none⟩
noncomputable def exts:List SN:=[⟨106,oN,dQ⟩,⟨107,kQ,cU⟩,⟨128,nU,dT⟩,⟨178,dE,bA⟩,⟨183,gG,bL⟩,⟨277,lX,dc⟩]
noncomputable def St:Sx:={
 ty:=[(2,(.int .i64)),(3,(.int .i64)),(4,.bool),(5,(.int .u8)),(8,Hq),(9,.str),(22,(.list false ei)),(23,(.list false cL)),(24,(.list false .str)),(26,fk),(27,(.list false (.int .i64))),(29,dL),(33,(.list false ei)),(34,(.list false cL)),(36,fk),(38,dL),(61,(.list false aK)),(63,cL),(69,(.list false jO)),(91,(.ptr fk)),(106,(.list false aK)),(108,cL),(111,ei),(113,(.list false .bool)),(118,(.list false (.int .u8))),(122,jO),(128,ei),(130,(.arr 56 .bool)),(132,(.arr 20 .bool)),(164,aK),(174,(.int .u64)),(204,aK)],
 nf:=[(8,4),(26,4),(29,3),(36,4),(38,3),(63,10),(108,10),(111,2),(122,2),(128,2),(164,3),(204,3)],
 el:=[(24,9,16),(27,3,8),(33,111,16),(34,63,128),(61,164,24),(69,122,24),(113,4,1),(118,5,1)],
 QS:=[1,89],
 eqs:=[8,111,122,128,164,204],
 sig:=[(3,ir),(7,DE),(8,yB),(9,yA),(10,Dz),(11,yi),(12,yh),(13,qE),(14,DV),(15,yI),(16,yc),(17,tR),(18,oD),(19,od),(27,uj),(28,uh),(29,qB),(30,yL),(31,Dw),(32,yT),(33,pE),(34,qv),(35,wo),(36,yz),(37,Dh),(38,tX),(39,pD),(40,Bd),(41,vE),(42,qy),(43,ua),(44,tw),(45,qS),(46,ye),(47,DR),(48,yU),(49,mq),(50,qu),(51,wb),(52,yf),(53,uo),(54,rJ),(55,tn),(56,tY),(57,x9),(58,pN),(59,oZ),(60,tv),(61,uq),(68,tU),(70,C3),(83,vF),(84,Aj),(85,uI),(86,vG),(87,uu),(88,vp),(89,tI),(90,o4),(91,rV),(92,u7),(93,rQ),(94,og),(95,rS),(96,AQ),(97,rT),(98,qA),(99,uP),(100,uM),(101,wu),(102,pg),(103,tN),(104,yS),(105,pU),(106,oN),(107,kQ),(108,qO),(109,yK),(110,vQ),(111,tW),(112,BC),(113,pF),(114,rI),(115,qH),(116,wB),(117,vf),(118,mE),(120,uZ),(125,vY),(128,nU),(144,oA),(150,oK),(151,qV),(152,wc),(153,nE),(154,xZ),(155,Ba),(156,pQ),(157,xO),(158,yu),(159,ru),(160,yN),(161,ve),(162,uU),(163,qN),(164,oV),(165,rO),(166,yV),(167,nD),(168,AN),(169,jd),(170,pT),(173,xP),(174,yR),(175,wJ),(176,vb),(178,dE),(179,A9),(180,uk),(181,oI),(183,gG),(215,wD),(216,vu),(217,tV),(218,pS),(219,kU),(220,cS),(221,AT),(222,po),(223,kp),(224,ym),(225,rE),(226,yH),(231,pa),(232,pC),(249,tO),(250,BQ),(251,rD),(277,lX)],
 body:=[(3,Tryz.f3),(7,Tryz.f7),(8,Tryz.f8),(9,Tryz.f9),(10,Tryz.f10),(11,Tryz.f11),(12,Tryz.f12),(13,Tryz.f13),(14,Tryz.f14),(15,Tryz.f15),(16,Tryz.f16),(17,Tryz.f17),(18,Tryz.f18),(19,Tryz.f19),(27,Tryz.f27),(28,Tryz.f28),(29,Tryz.f29),(30,Tryz.f30),(31,Tryz.f31),(32,Tryz.f32),(33,Tryz.f33),(34,Tryz.f34),(35,Tryz.f35),(36,Tryz.f36),(37,Tryz.f37),(38,Tryz.f38),(39,Tryz.f39),(40,Tryz.f40),(41,Tryz.f41),(42,Tryz.f42),(43,Tryz.f43),(44,Tryz.f44),(45,Tryz.f45),(46,Tryz.f46),(47,Tryz.f47),(48,Tryz.f48),(49,Tryz.f49),(50,Tryz.f50),(51,Tryz.f51),(52,Tryz.f52),(53,Tryz.f53),(54,Tryz.f54),(55,Tryz.f55),(56,Tryz.f56),(57,Tryz.f57),(58,Tryz.f58),(59,Tryz.f59),(60,Tryz.f60),(61,Tryz.f61),(68,Tryz.f68),(70,Tryz.f70),(83,Tryz.f83),(84,Tryz.f84),(85,Tryz.f85),(86,Tryz.f86),(87,Tryz.f87),(88,Tryz.f88),(89,Tryz.f89),(90,Tryz.f90),(91,Tryz.f91),(92,Tryz.f92),(93,Tryz.f93),(94,Tryz.f94),(95,Tryz.f95),(96,Tryz.f96),(97,Tryz.f97),(98,Tryz.f98),(99,Tryz.f99),(100,Tryz.f100),(101,Tryz.f101),(102,Tryz.f102),(103,Tryz.f103),(104,Tryz.f104),(105,Tryz.f105),(108,Tryz.f108),(109,Tryz.f109),(110,Tryz.f110),(111,Tryz.f111),(112,Tryz.f112),(113,Tryz.f113),(114,Tryz.f114),(115,Tryz.f115),(116,Tryz.f116),(117,Tryz.f117),(118,Tryz.f118),(120,Tryz.f120),(125,Tryz.f125),(144,Tryz.f144),(150,Tryz.f150),(151,Tryz.f151),(152,Tryz.f152),(153,Tryz.f153),(154,Tryz.f154),(155,Tryz.f155),(156,Tryz.f156),(157,Tryz.f157),(158,Tryz.f158),(159,Tryz.f159),(160,Tryz.f160),(161,Tryz.f161),(162,Tryz.f162),(163,Tryz.f163),(164,Tryz.f164),(165,Tryz.f165),(166,Tryz.f166),(167,Tryz.f167),(168,Tryz.f168),(169,Tryz.f169),(170,Tryz.f170),(172,Tryz.f172),(173,Tryz.f173),(174,Tryz.f174),(175,Tryz.f175),(176,Tryz.f176),(177,Tryz.f177),(179,Tryz.f179),(180,Tryz.f180),(181,Tryz.f181),(215,Tryz.f215),(216,Tryz.f216),(217,Tryz.f217),(218,Tryz.f218),(219,Tryz.f219),(220,Tryz.f220),(221,Tryz.f221),(222,Tryz.f222),(223,Tryz.f223),(224,Tryz.f224),(225,Tryz.f225),(226,Tryz.f226),(228,Tryz.f228),(231,Tryz.f231),(232,Tryz.f232),(249,Tryz.f249),(250,Tryz.f250),(251,Tryz.f251)]}
noncomputable def E1:Env:=St.env (BA exts)
noncomputable def H1:Nat→Hints:=fun f=>(Eng.look [(9,⟨fun r=>(Eng.look [(5,[(2,none),(3,none),(5,none),(21,none),(22,none),(23,none)])] r).getD [],fun r=>Eng.look [] r⟩),
 (12,⟨fun r=>(Eng.look [(5,[(2,none),(3,none),(5,none),(20,none),(21,none),(22,none)])] r).getD [],fun r=>Eng.look [] r⟩),
 (13,⟨fun r=>(Eng.look [(4,[(0,none),(1,none),(5,none)])] r).getD [],fun r=>Eng.look [] r⟩),
 (18,⟨fun r=>(Eng.look [(2,[(0,none),(1,none),(5,none)])] r).getD [],fun r=>Eng.look [] r⟩),
 (19,⟨fun r=>(Eng.look [(2,[(0,none),(1,none),(5,none)])] r).getD [],fun r=>Eng.look [] r⟩),
 (28,⟨fun r=>(Eng.look [(5,[(0,none),(1,none),(5,none)])] r).getD [],fun r=>Eng.look [] r⟩),
 (29,⟨fun r=>(Eng.look [(5,[(0,none),(1,none),(5,none)])] r).getD [],fun r=>Eng.look [] r⟩),
 (31,⟨fun r=>(Eng.look [(4,[(1,none),(37,none),(38,none),(39,none)]),(10,[(1,none),(55,none),(56,none),(57,none)]),(21,[(1,none),(7,none),(79,none),(80,none),(81,none)]),(27,[(1,none),(103,none),(104,none),(105,none)])] r).getD [],fun r=>Eng.look [] r⟩),
 (32,⟨fun r=>(Eng.look [(2,[(1,none),(6,none),(7,none),(8,none)])] r).getD [],fun r=>Eng.look [] r⟩),
 (33,⟨fun r=>(Eng.look [(3,[(5,none),(11,none),(12,none),(13,none)])] r).getD [],fun r=>Eng.look [] r⟩),
 (34,⟨fun r=>(Eng.look [(6,[(0,none),(3,none)])] r).getD [],fun r=>Eng.look [] r⟩),
 (35,⟨fun r=>(Eng.look [] r).getD [],fun r=>Eng.look [(4,[(1,none),(3,none)])] r⟩),
 (37,⟨fun r=>(Eng.look [(3,[(1,none),(5,none),(8,none),(9,none),(10,none)])] r).getD [],fun r=>Eng.look [] r⟩),
 (38,⟨fun r=>(Eng.look [(3,[(3,none),(9,none),(10,none),(11,none)]),(6,[(3,none),(5,none),(6,none),(9,none),(10,none),(11,none)])] r).getD [],fun r=>Eng.look [] r⟩),
 (39,⟨fun r=>(Eng.look [(4,[(5,none),(6,none),(7,none)])] r).getD [],fun r=>Eng.look [] r⟩),
 (40,⟨fun r=>(Eng.look [(3,[(0,none),(3,none),(4,none)])] r).getD [],fun r=>Eng.look [] r⟩),
 (41,⟨fun r=>(Eng.look [(3,[(2,none),(3,none),(5,none),(9,none),(10,none),(11,none)])] r).getD [],fun r=>Eng.look [] r⟩),
 (43,⟨fun r=>(Eng.look [(3,[(0,none),(3,none),(4,none)])] r).getD [],fun r=>Eng.look [] r⟩),
 (44,⟨fun r=>(Eng.look [(3,[(0,none),(3,none),(4,none)])] r).getD [],fun r=>Eng.look [] r⟩),
 (45,⟨fun r=>(Eng.look [(3,[(0,none),(3,none),(4,none)])] r).getD [],fun r=>Eng.look [] r⟩),
 (46,⟨fun r=>(Eng.look [(3,[(0,none),(3,none),(4,none)])] r).getD [],fun r=>Eng.look [] r⟩),
 (47,⟨fun r=>(Eng.look [(4,[(1,none),(42,none),(43,none),(44,none)]),(10,[(1,none),(68,none),(69,none),(70,none)]),(17,[(1,none),(7,none),(79,none),(80,none),(81,none)]),(22,[(1,none),(7,none),(9,none),(79,none),(80,none),(81,none),(89,none),(90,none),(91,none)]),(34,[(1,none),(7,none),(131,none),(132,none),(133,none)])] r).getD [],fun r=>Eng.look [] r⟩),
 (48,⟨fun r=>(Eng.look [(2,[(1,none),(6,none),(7,none),(8,none)])] r).getD [],fun r=>Eng.look [] r⟩),
 (49,⟨fun r=>(Eng.look [(5,[(5,none),(18,none),(19,none)])] r).getD [],fun r=>Eng.look [] r⟩),
 (51,⟨fun r=>(Eng.look [] r).getD [],fun r=>Eng.look [(4,[(5,none),(6,none)])] r⟩),
 (55,⟨fun r=>(Eng.look [(4,[(0,none),(1,none),(5,none)])] r).getD [],fun r=>Eng.look [] r⟩),
 (56,⟨fun r=>(Eng.look [(4,[(0,none),(1,none),(5,none)])] r).getD [],fun r=>Eng.look [] r⟩),
 (57,⟨fun r=>(Eng.look [(4,[(0,none),(1,none),(5,none)])] r).getD [],fun r=>Eng.look [] r⟩),
 (58,⟨fun r=>(Eng.look [(2,[(0,none),(1,none),(5,none)])] r).getD [],fun r=>Eng.look [] r⟩),
 (59,⟨fun r=>(Eng.look [(2,[(0,none),(1,none),(5,none)])] r).getD [],fun r=>Eng.look [] r⟩),
 (60,⟨fun r=>(Eng.look [(2,[(0,none),(1,none),(5,none)])] r).getD [],fun r=>Eng.look [] r⟩),
 (61,⟨fun r=>(Eng.look [(4,[(0,none),(3,none)])] r).getD [],fun r=>Eng.look [] r⟩),
 (85,⟨fun r=>(Eng.look [(6,[(1,none),(65,none),(66,none),(67,none)])] r).getD [],fun r=>Eng.look [(5,[(1,none)]),(13,[(1,none)])] r⟩),
 (86,⟨fun r=>(Eng.look [(3,[(4,none),(11,none),(12,none),(13,none)]),(6,[(4,none),(6,none),(11,none),(12,none),(13,none),(18,none),(19,none),(20,none)])] r).getD [],fun r=>Eng.look [] r⟩),
 (87,⟨fun r=>(Eng.look [(2,[(0,none),(3,none)])] r).getD [],fun r=>Eng.look [] r⟩),
 (89,⟨fun r=>(Eng.look [(5,[(2,none),(3,none),(5,none),(6,none),(7,none)]),(9,[(2,none),(3,none),(5,none),(7,none),(8,none),(24,none),(25,none),(26,none)]),(13,[(2,none),(3,none),(5,none),(7,none),(8,none),(10,none),(24,none),(25,none),(26,none),(46,none),(47,none),(48,none)])] r).getD [],fun r=>Eng.look [] r⟩),
 (90,⟨fun r=>(Eng.look [(5,[(0,none),(3,none),(4,none)])] r).getD [],fun r=>Eng.look [] r⟩),
 (91,⟨fun r=>(Eng.look [(5,[(3,none),(10,none),(11,none),(12,none)])] r).getD [],fun r=>Eng.look [] r⟩),
 (92,⟨fun r=>(Eng.look [(17,[(3,none),(5,none),(6,none),(13,none),(16,none),(17,none),(81,none),(82,none),(83,none)])] r).getD [],fun r=>Eng.look [(16,[(3,none),(4,none),(5,none),(6,none),(13,none),(16,none),(17,none)])] r⟩),
 (93,⟨fun r=>(Eng.look [(5,[(0,none),(1,none),(2,none),(8,none),(9,none)])] r).getD [],fun r=>Eng.look [] r⟩),
 (94,⟨fun r=>(Eng.look [(4,[(0,none),(3,none)])] r).getD [],fun r=>Eng.look [] r⟩),
 (96,⟨fun r=>(Eng.look [(4,[(1,none),(5,none)])] r).getD [],fun r=>Eng.look [] r⟩),
 (97,⟨fun r=>(Eng.look [(3,[(1,none),(2,none),(5,none),(6,none)])] r).getD [],fun r=>Eng.look [] r⟩),
 (98,⟨fun r=>(Eng.look [(3,[(1,none),(5,none),(11,none),(12,none),(13,none)]),(6,[(1,none),(5,none),(11,none),(12,none),(13,none),(18,none),(19,none),(20,none)])] r).getD [],fun r=>Eng.look [] r⟩),
 (101,⟨fun r=>(Eng.look [(10,[(1,none),(83,none),(84,none),(85,none)])] r).getD [],fun r=>Eng.look [(7,[(1,none)])] r⟩),
 (103,⟨fun r=>(Eng.look [(2,[(0,none),(5,none),(6,none)])] r).getD [],fun r=>Eng.look [] r⟩),
 (105,⟨fun r=>(Eng.look [(4,[(0,none),(3,none),(4,none),(5,none),(6,none),(16,none)]),(8,[(0,none),(3,none),(4,none),(5,none),(6,none),(7,none),(8,none),(16,none),(19,none),(20,none)]),(14,[(0,none),(3,none),(4,none),(5,none),(6,none),(7,none),(8,none),(9,none),(16,none),(19,none),(20,none),(45,none),(46,none),(47,none)])] r).getD [],fun r=>Eng.look [] r⟩),
 (108,⟨fun r=>(Eng.look [(7,[(3,none),(13,none),(14,none),(15,none)])] r).getD [],fun r=>Eng.look [] r⟩),
 (110,⟨fun r=>(Eng.look [(16,[(3,none),(6,none),(13,none),(14,none),(17,none),(87,none),(88,none),(89,none)])] r).getD [],fun r=>Eng.look [(15,[(3,none),(4,none),(6,none),(13,none),(14,none),(17,none)])] r⟩),
 (111,⟨fun r=>(Eng.look [(3,[(5,none),(11,none),(12,none),(13,none)])] r).getD [],fun r=>Eng.look [] r⟩),
 (112,⟨fun r=>(Eng.look [(3,[(0,none),(3,none),(7,none),(8,none)])] r).getD [],fun r=>Eng.look [] r⟩),
 (113,⟨fun r=>(Eng.look [(3,[(0,none),(5,none),(6,none),(17,none),(18,none),(19,none)])] r).getD [],fun r=>Eng.look [] r⟩),
 (114,⟨fun r=>(Eng.look [(3,[(5,none),(17,none),(18,none),(19,none)])] r).getD [],fun r=>Eng.look [] r⟩),
 (115,⟨fun r=>(Eng.look [(3,[(5,none),(15,none),(16,none),(17,none)])] r).getD [],fun r=>Eng.look [] r⟩),
 (118,⟨fun r=>(Eng.look [(2,[(0,none),(1,none),(5,none)])] r).getD [],fun r=>Eng.look [] r⟩),
 (120,⟨fun r=>(Eng.look [(2,[(2,none),(12,none),(13,none),(14,none)])] r).getD [],fun r=>Eng.look [] r⟩),
 (125,⟨fun r=>(Eng.look [(2,[(2,none),(12,none),(13,none),(14,none)])] r).getD [],fun r=>Eng.look [] r⟩),
 (154,⟨fun r=>(Eng.look [(2,[(1,none),(7,none),(8,none),(9,none)])] r).getD [],fun r=>Eng.look [] r⟩),
 (155,⟨fun r=>(Eng.look [(2,[(0,none),(6,none),(7,none),(8,none)])] r).getD [],fun r=>Eng.look [] r⟩),
 (158,⟨fun r=>(Eng.look [(4,[(0,none),(5,none)])] r).getD [],fun r=>Eng.look [] r⟩),
 (160,⟨fun r=>(Eng.look [(2,[(5,none),(6,none),(7,none)])] r).getD [],fun r=>Eng.look [] r⟩),
 (161,⟨fun r=>(Eng.look [(2,[(1,none),(2,none),(10,none),(11,none),(12,none)])] r).getD [],fun r=>Eng.look [] r⟩),
 (163,⟨fun r=>(Eng.look [(5,[(0,none),(5,none),(6,none)])] r).getD [],fun r=>Eng.look [] r⟩),
 (164,⟨fun r=>(Eng.look [(3,[(0,none),(3,none),(4,none)])] r).getD [],fun r=>Eng.look [] r⟩),
 (168,⟨fun r=>(Eng.look [(4,[(0,none),(8,none),(9,none),(10,none)])] r).getD [],fun r=>Eng.look [(17,[(0,none),(3,none),(4,none),(8,none),(9,none),(10,none)])] r⟩),
 (170,⟨fun r=>(Eng.look [(3,[(5,none),(15,none),(16,none),(17,none)])] r).getD [],fun r=>Eng.look [] r⟩),
 (174,⟨fun r=>(Eng.look [(2,[(5,none),(6,none),(7,none)])] r).getD [],fun r=>Eng.look [] r⟩),
 (175,⟨fun r=>(Eng.look [(2,[(1,none),(2,none),(10,none),(11,none),(12,none)])] r).getD [],fun r=>Eng.look [] r⟩),
 (180,⟨fun r=>(Eng.look [(3,[(3,none),(12,none),(13,none),(14,none)]),(6,[(3,none),(12,none),(13,none),(14,none),(19,none),(20,none),(21,none)])] r).getD [],fun r=>Eng.look [] r⟩),
 (181,⟨fun r=>(Eng.look [(4,[(0,none),(1,none),(5,none)])] r).getD [],fun r=>Eng.look [] r⟩),
 (215,⟨fun r=>(Eng.look [(4,[(1,none),(12,none),(13,none),(14,none)])] r).getD [],fun r=>Eng.look [] r⟩),
 (216,⟨fun r=>(Eng.look [(4,[(1,none),(12,none),(13,none),(14,none)])] r).getD [],fun r=>Eng.look [] r⟩),
 (219,⟨fun r=>(Eng.look [(4,[(0,none),(1,none),(12,none),(13,none)])] r).getD [],fun r=>Eng.look [] r⟩),
 (220,⟨fun r=>(Eng.look [(4,[(0,none),(1,none),(12,none),(13,none)])] r).getD [],fun r=>Eng.look [] r⟩),
 (221,⟨fun r=>(Eng.look [(3,[(3,none),(6,none),(7,none),(8,none)])] r).getD [],fun r=>Eng.look [] r⟩),
 (223,⟨fun r=>(Eng.look [(2,[(0,none),(1,none),(7,none),(8,none)])] r).getD [],fun r=>Eng.look [] r⟩),
 (224,⟨fun r=>(Eng.look [(4,[(0,none),(1,none),(5,none)])] r).getD [],fun r=>Eng.look [] r⟩),
 (225,⟨fun r=>(Eng.look [(5,[(0,none),(1,none),(8,none),(28,none),(29,none)])] r).getD [],fun r=>Eng.look [] r⟩),
 (228,⟨fun r=>(Eng.look [(2,[(0,none),(1,none),(7,none),(8,none)])] r).getD [],fun r=>Eng.look [] r⟩),
 (231,⟨fun r=>(Eng.look [(3,[(3,none),(8,none),(9,none),(10,none)])] r).getD [],fun r=>Eng.look [] r⟩),
 (251,⟨fun r=>(Eng.look [(5,[(0,none),(5,none),(6,none)])] r).getD [],fun r=>Eng.look [] r⟩)] f).getD ⟨fun _=>[],fun _=>none⟩
noncomputable def mM(k:Nat)(x:(ck×aT)):Option Bool:=aL E1 H1 k 3 ir x
noncomputable def vJ(k:Nat)(x:(ck×Int)):Option Int:=aL E1 H1 k 7 DE x
noncomputable def qm(k:Nat)(x:(aT×Int)):Option Int:=aL E1 H1 k 8 yB x
noncomputable def qo(k:Nat)(x:(ck×aT)):Option (List ByteArray):=aL E1 H1 k 9 yA x
noncomputable def kk(k:Nat)(x:ck):Option ck:=aL E1 H1 k 10 Dz x
noncomputable def gD(k:Nat)(x:aT):Option aT:=aL E1 H1 k 11 yi x
noncomputable def mm(k:Nat)(x:(ck×aT)):Option (List ByteArray):=aL E1 H1 k 12 yh x
noncomputable def dR(k:Nat)(x:((List ByteArray)×(List ByteArray))):Option Bool:=aL E1 H1 k 13 qE x
noncomputable def wI(k:Nat)(x:(ck×ck)):Option Bool:=aL E1 H1 k 14 DV x
noncomputable def ql(k:Nat)(x:(aT×aT)):Option Bool:=aL E1 H1 k 15 yI x
noncomputable def qp(k:Nat)(x:(ck×Int)):Option Int:=aL E1 H1 k 16 yc x
noncomputable def ng(k:Nat)(x:(aT×Int)):Option Int:=aL E1 H1 k 17 tR x
noncomputable def fX(k:Nat)(x:((List ByteArray)×Int)):Option (Int×(List ByteArray)):=aL E1 H1 k 18 oD x
noncomputable def fO(k:Nat)(x:((List ByteArray)×Int)):Option Int:=aL E1 H1 k 19 od x
noncomputable def nr(k:Nat)(x:((List aF)×Int)):Option Int:=aL E1 H1 k 27 uj x
noncomputable def nB(k:Nat)(x:((List aA)×Int)):Option Int:=aL E1 H1 k 28 uh x
noncomputable def lK(k:Nat)(x:((List ByteArray)×Int)):Option Int:=aL E1 H1 k 29 qB x
noncomputable def l7(k:Nat)(x:((List Int)×Int)):Option Int:=aL E1 H1 k 30 yL x
noncomputable def pj(k:Nat)(x:ck):Option Bool:=aL E1 H1 k 31 Dw x
noncomputable def l6(k:Nat)(x:aT):Option Bool:=aL E1 H1 k 32 yT x
noncomputable def kY(k:Nat)(x:(ck×aT)):Option (List Int):=aL E1 H1 k 33 pE x
noncomputable def aZ(k:Nat)(x:Int):Option ByteArray:=aL E1 H1 k 34 qv x
noncomputable def oT(k:Nat)(x:aA):Option ByteArray:=aL E1 H1 k 35 wo x
noncomputable def eU(k:Nat)(x:(ck×(aT×aF))):Option Bool:=aL E1 H1 k 36 yz x
noncomputable def mS(k:Nat)(x:((List ByteArray)×ByteArray)):Option ByteArray:=aL E1 H1 k 37 Dh x
noncomputable def ny(k:Nat)(x:(List ar)):Option (List ByteArray):=aL E1 H1 k 38 tX x
noncomputable def eN(k:Nat)(x:(ck×Int)):Option (List ar):=aL E1 H1 k 39 pD x
noncomputable def sJ(k:Nat)(x:ByteArray):Option ByteArray:=aL E1 H1 k 40 Bd x
noncomputable def ku(k:Nat)(x:(ck×aA)):Option ByteArray:=aL E1 H1 k 41 vE x
noncomputable def iW(k:Nat)(x:(ck×Int)):Option ByteArray:=aL E1 H1 k 42 qy x
noncomputable def mX(k:Nat)(x:(List aF)):Option (List aF):=aL E1 H1 k 43 ua x
noncomputable def mZ(k:Nat)(x:(List aA)):Option (List aA):=aL E1 H1 k 44 tw x
noncomputable def lx(k:Nat)(x:(List ByteArray)):Option (List ByteArray):=aL E1 H1 k 45 qS x
noncomputable def ml(k:Nat)(x:(List Int)):Option (List Int):=aL E1 H1 k 46 ye x
noncomputable def kf(k:Nat)(x:ck):Option Bool:=aL E1 H1 k 47 DR x
noncomputable def gB(k:Nat)(x:aT):Option Bool:=aL E1 H1 k 48 yU x
noncomputable def ik(k:Nat)(x:(ck×aT)):Option (List Int):=aL E1 H1 k 49 mq x
noncomputable def bq(k:Nat)(x:Int):Option ByteArray:=aL E1 H1 k 50 qu x
noncomputable def om(k:Nat)(x:((Option ck)×Int)):Option ByteArray:=aL E1 H1 k 51 wb x
noncomputable def jn(k:Nat)(x:((Option ck)×(aT×aF))):Option Bool:=aL E1 H1 k 52 yf x
noncomputable def mY(k:Nat)(x:((Option ck)×Int)):Option ByteArray:=aL E1 H1 k 53 uo x
noncomputable def iO(k:Nat)(x:(ck×Int)):Option ByteArray:=aL E1 H1 k 54 rJ x
noncomputable def nc(k:Nat)(x:((List aF)×(List aF))):Option Bool:=aL E1 H1 k 55 tn x
noncomputable def nu(k:Nat)(x:((List aA)×(List aA))):Option Bool:=aL E1 H1 k 56 tY x
noncomputable def l4(k:Nat)(x:((List Int)×(List Int))):Option Bool:=aL E1 H1 k 57 x9 x
noncomputable def kx(k:Nat)(x:((List aF)×Int)):Option (Int×(List aF)):=aL E1 H1 k 58 pN x
noncomputable def ld(k:Nat)(x:((List aA)×Int)):Option (Int×(List aA)):=aL E1 H1 k 59 oZ x
noncomputable def jB(k:Nat)(x:((List Int)×Int)):Option (Int×(List Int)):=aL E1 H1 k 60 tv x
noncomputable def ez(k:Nat)(x:Int):Option ByteArray:=aL E1 H1 k 61 uq x
noncomputable def jx(k:Nat)(x:((Option ck)×Int)):Option Bool:=aL E1 H1 k 68 tU x
noncomputable def my(k:Nat)(x:((List ByteArray)×ByteArray)):Option ByteArray:=aL E1 H1 k 70 C3 x
noncomputable def ix(k:Nat)(x:(aA×Int)):Option Int:=aL E1 H1 k 83 vF x
noncomputable def aQ(k:Nat)(x:aj):Option Bool:=aL E1 H1 k 84 Aj x
noncomputable def ov(k:Nat)(x:aA):Option Bool:=aL E1 H1 k 85 uI x
noncomputable def oU(k:Nat)(x:ck):Option ((List Bool)×Bool):=aL E1 H1 k 86 vG x
noncomputable def jD(k:Nat)(x:ByteArray):Option Bool:=aL E1 H1 k 87 uu x
noncomputable def bD(k:Nat)(x:Int):Option Bool:=aL E1 H1 k 88 vp x
noncomputable def fY(k:Nat)(x:(ck×aT)):Option (List Bool):=aL E1 H1 k 89 tI x
noncomputable def k9(k:Nat)(x:Int):Option ByteArray:=aL E1 H1 k 90 o4 x
noncomputable def iA(k:Nat)(x:(List aj)):Option ByteArray:=aL E1 H1 k 91 rV x
noncomputable def oG(k:Nat)(x:(aT×(Int×(Int×(Int×((List aj)×Int)))))):Option Bool:=aL E1 H1 k 92 u7 x
noncomputable def lP(k:Nat)(x:(ByteArray×aF)):Option (Int×Bool):=aL E1 H1 k 93 rQ x
noncomputable def jJ(k:Nat)(x:ByteArray):Option Bool:=aL E1 H1 k 94 og x
noncomputable def lY(k:Nat)(x:ar):Option ByteArray:=aL E1 H1 k 95 rS x
noncomputable def kO(k:Nat)(x:ar):Option ByteArray:=aL E1 H1 k 96 AQ x
noncomputable def lD(k:Nat)(x:(ck×Int)):Option Int:=aL E1 H1 k 97 rT x
noncomputable def lO(k:Nat)(x:(ck×Int)):Option Int:=aL E1 H1 k 98 qA x
noncomputable def la(k:Nat)(x:aF):Option aF:=aL E1 H1 k 99 uP x
noncomputable def kr(k:Nat)(x:aA):Option aA:=aL E1 H1 k 100 uM x
noncomputable def nV(k:Nat)(x:aA):Option Bool:=aL E1 H1 k 101 wu x
noncomputable def kG(k:Nat)(x:Int):Option Int:=aL E1 H1 k 102 pg x
noncomputable def jF(k:Nat)(x:ByteArray):Option Bool:=aL E1 H1 k 103 tN x
noncomputable def bU(k:Nat)(x:Int):Option Bool:=aL E1 H1 k 104 yS x
noncomputable def eK(k:Nat)(x:((Option ck)×aT)):Option (List Bool):=aL E1 H1 k 105 pU x
noncomputable def uK(k:Nat)(x:Int):Option ByteArray:=aL E1 H1 k 106 oN x
noncomputable def kv(k:Nat)(x:Int):Option ByteArray:=aL E1 H1 k 107 kQ x
noncomputable def ja(k:Nat)(x:(List aj)):Option ByteArray:=aL E1 H1 k 108 qO x
noncomputable def jo(k:Nat)(x:((Option ck)×Int)):Option Bool:=aL E1 H1 k 109 yK x
noncomputable def n9(k:Nat)(x:(aT×(Int×(Int×(Int×((List aj)×Int)))))):Option Bool:=aL E1 H1 k 110 vQ x
noncomputable def na(k:Nat)(x:((Option ck)×Int)):Option (List ByteArray):=aL E1 H1 k 111 tW x
noncomputable def sK(k:Nat)(x:ByteArray):Option ByteArray:=aL E1 H1 k 112 BC x
noncomputable def gR(k:Nat)(x:((Option ck)×Int)):Option ByteArray:=aL E1 H1 k 113 pF x
noncomputable def lA(k:Nat)(x:((Option ck)×Int)):Option Int:=aL E1 H1 k 114 rI x
noncomputable def lV(k:Nat)(x:((Option ck)×Int)):Option Int:=aL E1 H1 k 115 qH x
noncomputable def ko(k:Nat)(x:(aF×aF)):Option Bool:=aL E1 H1 k 116 wB x
noncomputable def kN(k:Nat)(x:(aA×aA)):Option Bool:=aL E1 H1 k 117 vf x
noncomputable def eL(k:Nat)(x:((List aj)×Int)):Option (Int×(List aj)):=aL E1 H1 k 118 mE x
noncomputable def oM(k:Nat)(x:(ck×(Int×ByteArray))):Option (Int×Bool):=aL E1 H1 k 120 uZ x
noncomputable def oh(k:Nat)(x:((Option ck)×(Int×ByteArray))):Option (Int×Bool):=aL E1 H1 k 125 vY x
noncomputable def we(k:Nat)(x:((List ByteArray)×ByteArray)):Option ByteArray:=aL E1 H1 k 128 nU x
noncomputable def jV(k:Nat)(x:ByteArray):Option Bool:=aL E1 H1 k 144 oA x
noncomputable def fU(k:Nat)(x:((List aj)×Int)):Option Int:=aL E1 H1 k 150 oK x
noncomputable def lE(k:Nat)(x:(aA×aA)):Option Bool:=aL E1 H1 k 151 qV x
noncomputable def de(k:Nat)(x:Int):Option Bool:=aL E1 H1 k 152 wc x
noncomputable def dA(k:Nat)(x:Int):Option Int:=aL E1 H1 k 153 nE x
noncomputable def mf(k:Nat)(x:((List Int)×Int)):Option Bool:=aL E1 H1 k 154 xZ x
noncomputable def iY(k:Nat)(x:(List aj)):Option Bool:=aL E1 H1 k 155 Ba x
noncomputable def gJ(k:Nat)(x:Int):Option Int:=aL E1 H1 k 156 pQ x
noncomputable def eW(k:Nat)(x:(Bool×ByteArray)):Option ByteArray:=aL E1 H1 k 157 xO x
noncomputable def eS(k:Nat)(x:aF):Option Int:=aL E1 H1 k 158 yu x
noncomputable def cK(k:Nat)(x:aF):Option Bool:=aL E1 H1 k 159 ru x
noncomputable def qf(k:Nat)(x:(List aj)):Option Int:=aL E1 H1 k 160 yN x
noncomputable def oL(k:Nat)(x:((List aj)×aF)):Option (Int×Bool):=aL E1 H1 k 161 ve x
noncomputable def kt(k:Nat)(x:(aT×Int)):Option Bool:=aL E1 H1 k 162 uU x
noncomputable def iK(k:Nat)(x:aF):Option ByteArray:=aL E1 H1 k 163 qN x
noncomputable def fV(k:Nat)(x:(List aj)):Option (List aj):=aL E1 H1 k 164 oV x
noncomputable def lF(k:Nat)(x:(aA×aA)):Option Bool:=aL E1 H1 k 165 rO x
noncomputable def jh(k:Nat)(x:Int):Option Bool:=aL E1 H1 k 166 yV x
noncomputable def jg(k:Nat)(x:Int):Option Int:=aL E1 H1 k 167 nD x
noncomputable def iL(k:Nat)(x:(List aj)):Option Bool:=aL E1 H1 k 168 AN x
noncomputable def c7(k:Nat)(x:((List Int)×Int)):Option Bool:=aL E1 H1 k 169 jd x
noncomputable def eJ(k:Nat)(x:((Option ck)×Int)):Option (List ar):=aL E1 H1 k 170 pT x
noncomputable def ji(k:Nat)(x:aF):Option Int:=aL E1 H1 k 173 xP x
noncomputable def p8(k:Nat)(x:(List aj)):Option Int:=aL E1 H1 k 174 yR x
noncomputable def ou(k:Nat)(x:((List aj)×aF)):Option (Int×Bool):=aL E1 H1 k 175 wJ x
noncomputable def kW(k:Nat)(x:(aT×Int)):Option Bool:=aL E1 H1 k 176 vb x
noncomputable def dF(k:Nat)(x:(List ByteArray)):Option (List ByteArray):=aL E1 H1 k 178 dE x
noncomputable def tg(k:Nat)(x:Int):Option ByteArray:=aL E1 H1 k 179 A9 x
noncomputable def nb(k:Nat)(x:(Option ck)):Option (List Bool):=aL E1 H1 k 180 uk x
noncomputable def fE(k:Nat)(x:((List aj)×(List aj))):Option Bool:=aL E1 H1 k 181 oI x
noncomputable def gE(k:Nat)(x:(ByteArray×ByteArray)):Option Bool:=aL E1 H1 k 183 gG x
noncomputable def n7(k:Nat)(x:((List Int)×(List Int))):Option Bool:=aL E1 H1 k 215 wD x
noncomputable def kB(k:Nat)(x:((List aj)×(List aj))):Option Bool:=aL E1 H1 k 216 vu x
noncomputable def nv(k:Nat)(x:aj):Option Bool:=aL E1 H1 k 217 tV x
noncomputable def gS(k:Nat)(x:aj):Option aj:=aL E1 H1 k 218 pS x
noncomputable def fM(k:Nat)(x:((List Int)×(List Int))):Option Bool:=aL E1 H1 k 219 kU x
noncomputable def bw(k:Nat)(x:((List aj)×(List aj))):Option Bool:=aL E1 H1 k 220 cS x
noncomputable def tc(k:Nat)(x:(List Int)):Option Int:=aL E1 H1 k 221 AT x
noncomputable def gZ(k:Nat)(x:aF):Option Int:=aL E1 H1 k 222 po x
noncomputable def fF(k:Nat)(x:((List Int)×Int)):Option Int:=aL E1 H1 k 223 kp x
noncomputable def qq(k:Nat)(x:ar):Option (List ByteArray):=aL E1 H1 k 224 ym x
noncomputable def lN(k:Nat)(x:(ByteArray×aF)):Option (Int×Bool):=aL E1 H1 k 225 rE x
noncomputable def qb(k:Nat)(x:ar):Option ByteArray:=aL E1 H1 k 226 yH x
noncomputable def kH(k:Nat)(x:aA):Option (List Int):=aL E1 H1 k 231 pa x
noncomputable def gK(k:Nat)(x:(aj×aj)):Option Bool:=aL E1 H1 k 232 pC x
noncomputable def jA(k:Nat)(x:Int):Option Bool:=aL E1 H1 k 249 tO x
noncomputable def th(k:Nat)(x:ar):Option ByteArray:=aL E1 H1 k 250 BQ x
noncomputable def iG(k:Nat)(x:aF):Option ByteArray:=aL E1 H1 k 251 rD x
noncomputable def rR(k:Nat)(x:ar):Option ByteArray:=aL E1 H1 k 277 lX x
theorem zO(k:Nat)(x):uK (k+1) x=dQ x:=by kernel_rfl
theorem uD(k:Nat)(x):kv (k+1) x=cU x:=by kernel_rfl
theorem zj(k:Nat)(x):we (k+1) x=dT x:=by kernel_rfl
theorem lh(k:Nat)(x):dF (k+1) x=bA x:=by kernel_rfl
theorem oX(k:Nat)(x):gE (k+1) x=bL x:=by kernel_rfl
theorem uG(k:Nat)(x):rR (k+1) x=dc x:=by kernel_rfl
end Go.Proofs.YtkdcfeopelbojaaGreatDoor
