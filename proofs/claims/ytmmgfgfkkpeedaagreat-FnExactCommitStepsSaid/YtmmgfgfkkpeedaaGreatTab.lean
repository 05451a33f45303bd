/- The tables, the residual functions and lemmas of this seat: parts of the proof of the law; conditions: those that each names. -/
import Derived.Test.YtmmgfgfkkpeedaaGreatEng5
import Derived.KernelRfl
import Derived.Test.YtmmgfgfkkpeedaaGreatProg
set_option maxRecDepth 100000
namespace Go.Proofs.YtmmgfgfkkpeedaaGreat
open Go.Eng
abbrev az:Type:=(Int×Int)
abbrev dh:Type:=(ByteArray×Int)
abbrev ar:Type:=(Int×ByteArray)
abbrev av:Type:=(Int×az)
abbrev fG:Type:=(Int×(Int×(List Int)))
abbrev DStep:Type:=(Bool×ar)
abbrev Vy:Type:=(Int×(Int×(Bool×Int)))
abbrev bF:Type:=((List ByteArray)×(List ar))
abbrev bL:Type:=(fG×(List av))
abbrev ax:Type:=(Int×(Int×(Int×(Int×(Int×(Int×(Int×((List Int)×((List av)×(List av))))))))))
abbrev cQ:Type:=(Int×((List az)×((List ax)×(List ByteArray))))
abbrev bx:Type:=(cQ×(List bL))
abbrev aY:Type:=(bF×(Int×bx))
abbrev Pq:Type:=(aY×Int)
abbrev O3:Ty:=(.pair .str (.int .u64))
abbrev bO:Ty:=(.pair (.int .i64) .str)
abbrev dL:Ty:=(.pair (.int .i64) (.int .i64))
abbrev jd:Ty:=(.pair .bool bO)
abbrev bJ:Ty:=(.pair (.int .i64) dL)
abbrev QL:Ty:=(.pair (.list true .str) (.list true bO))
abbrev UX:Ty:=(.pair (.int .i64) (.pair (.int .i64) (.pair .bool (.int .u8))))
abbrev UG:Ty:=(.pair (.int .i64) (.pair (.int .i64) (.list true (.int .i64))))
abbrev gL:Ty:=(.pair (.list false .str) (.list false bO))
abbrev tD:Ty:=(.pair (.int .i64) (.pair (.int .i64) (.list false (.int .i64))))
abbrev NK:Ty:=(.pair UG (.list true bJ))
abbrev k8:Ty:=(.pair tD (.list false bJ))
abbrev Ab:Ty:=(.pair (.int .i64) (.pair (.int .i64) (.pair (.int .i64) (.pair (.int .i64) (.pair (.int .i64) (.pair (.int .i64) (.pair (.int .i64) (.pair (.list true (.int .i64)) (.pair (.list true bJ) (.list true bJ))))))))))
abbrev db:Ty:=(.pair (.int .i64) (.pair (.int .i64) (.pair (.int .i64) (.pair (.int .i64) (.pair (.int .i64) (.pair (.int .i64) (.pair (.int .i64) (.pair (.list false (.int .i64)) (.pair (.list false bJ) (.list false bJ))))))))))
abbrev QR:Ty:=(.pair (.int .i64) (.pair (.list true dL) (.pair (.list true Ab) (.list true .str))))
abbrev lP:Ty:=(.pair (.int .i64) (.pair (.list false dL) (.pair (.list false db) (.list false .str))))
abbrev JE:Ty:=(.pair QR (.list true NK))
abbrev gU:Ty:=(.pair lP (.list false k8))
abbrev Fy:Ty:=(.pair QL (.pair (.int .i64) JE))
abbrev dC:Ty:=(.pair gL (.pair (.int .i64) gU))
abbrev WU:Ty:=(.pair Fy (.int .i64))
abbrev WT:Ty:=(.pair dC (.int .i64))
abbrev fa:aZ:=⟨[.val dC,.val lP],[.bool],none⟩
abbrev GS:aZ:=⟨[.val lP,.val (.int .i64)],[(.int .i64)],none⟩
abbrev Ht:aZ:=⟨[.val lP],[QR],none⟩
abbrev uj:aZ:=⟨[.val dC,.val dC],[.bool],none⟩
abbrev GI:aZ:=⟨[.val lP,.val lP],[.bool],none⟩
abbrev Bc:aZ:=⟨[.val QR,.val (.int .i64)],[(.int .i64)],none⟩
abbrev qH:aZ:=⟨[.val Fy,.val (.int .i64)],[(.int .i64)],none⟩
abbrev uo:aZ:=⟨[.val dC,.val (.int .i64)],[(.int .i64)],none⟩
abbrev uW:aZ:=⟨[.val dC],[.bool],none⟩
abbrev ub:aZ:=⟨[.val dC],[Fy],none⟩
abbrev uV:aZ:=⟨[.val dC],[.bool],none⟩
abbrev qx:aZ:=⟨[.val dC,.val lP],[(.list true jd)],none⟩
abbrev qy:aZ:=⟨[.val dC,.val lP],[(.list true jd)],none⟩
abbrev xM:aZ:=⟨[.val (.list false jd),.val (.list false jd)],[.bool],none⟩
abbrev uy:aZ:=⟨[.val (.int .i64)],[(.int .i64)],some (false,(.list true jd))⟩
abbrev tP:aZ:=⟨[.val (.list false jd),.val (.int .i64)],[(.int .i64)],none⟩
abbrev wH:aZ:=⟨[.val (.list false dL),.val (.int .i64)],[(.int .i64)],none⟩
abbrev xf:aZ:=⟨[.val (.list false db),.val (.int .i64)],[(.int .i64)],none⟩
abbrev u9:aZ:=⟨[.val (.list false .str),.val (.int .i64)],[(.int .i64)],none⟩
abbrev AK:aZ:=⟨[.val tD,.val (.int .i64)],[(.int .i64)],none⟩
abbrev wP:aZ:=⟨[.val (.list false dL)],[(.list true dL)],none⟩
abbrev wL:aZ:=⟨[.val (.list false db)],[(.list true Ab)],none⟩
abbrev uK:aZ:=⟨[.val (.list false .str)],[(.list true .str)],none⟩
abbrev BE:aZ:=⟨[.val tD],[UG],none⟩
abbrev wM:aZ:=⟨[.val gU],[.bool],none⟩
abbrev AM:aZ:=⟨[.val gL,.val gL],[.bool],none⟩
abbrev wB:aZ:=⟨[.val gU,.val gU],[.bool],none⟩
abbrev wV:aZ:=⟨[.val (.list false dL),.val (.list false dL)],[.bool],none⟩
abbrev wu:aZ:=⟨[.val (.list false db),.val (.list false db)],[.bool],none⟩
abbrev u6:aZ:=⟨[.val (.list false .str),.val (.list false .str)],[.bool],none⟩
abbrev BR:aZ:=⟨[.val tD,.val tD],[.bool],none⟩
abbrev sC:aZ:=⟨[.val (.int .i64)],[(.int .i64)],some (false,(.list true dL))⟩
abbrev si:aZ:=⟨[.val (.int .i64)],[(.int .i64)],some (false,(.list true Ab))⟩
abbrev qc:aZ:=⟨[.val (.int .i64)],[(.int .i64)],some (false,(.list true .str))⟩
abbrev wz:aZ:=⟨[.val (.int .i64)],[(.int .i64)],some (false,(.list true (.int .i64)))⟩
abbrev xc:aZ:=⟨[.val QL,.val (.int .i64)],[(.int .i64)],none⟩
abbrev rF:aZ:=⟨[.val JE,.val (.int .i64)],[(.int .i64)],none⟩
abbrev Br:aZ:=⟨[.val gL,.val (.int .i64)],[(.int .i64)],none⟩
abbrev xi:aZ:=⟨[.val gU,.val (.int .i64)],[(.int .i64)],none⟩
abbrev xl:aZ:=⟨[.val gU],[.bool],none⟩
abbrev C5:aZ:=⟨[.val (.int .i64),.val (.int .i64),.val (.int .i64)],[.bool],none⟩
abbrev Bo:aZ:=⟨[.val gL],[.bool],none⟩
abbrev qz:aZ:=⟨[.val gL],[(.int .i64),(.list true bO),.bool],none⟩
abbrev Bl:aZ:=⟨[.val gL],[QR,.bool],none⟩
abbrev BJ:aZ:=⟨[.val lP,.val lP],[.bool],none⟩
abbrev BU:aZ:=⟨[.val gL],[QL],none⟩
abbrev wj:aZ:=⟨[.val gU],[JE],none⟩
abbrev AQ:aZ:=⟨[.val gL],[.bool],none⟩
abbrev qo:aZ:=⟨[.val gL],[(.int .i64),(.list true bO),.bool],none⟩
abbrev AZ:aZ:=⟨[.val gL],[QR,.bool],none⟩
abbrev BZ:aZ:=⟨[.val lP,.val lP],[.bool],none⟩
abbrev Hh:aZ:=⟨[.val lP],[.bool],none⟩
abbrev wW:aZ:=⟨[.val lP,.val lP,.val (.int .i64)],[(.list true jd)],none⟩
abbrev GZ:aZ:=⟨[.val lP],[.bool],none⟩
abbrev ox:aZ:=⟨[.val (.ptr dC),.val lP],[(.list true jd)],none⟩
abbrev AU:aZ:=⟨[.val jd,.val jd],[.bool],none⟩
abbrev wE:aZ:=⟨[.val (.int .i64)],[.str],none⟩
abbrev DS:aZ:=⟨[.val .str,.val (.int .i64)],[.str],none⟩
abbrev dJ:aZ:=⟨[.val (.list false .str),.val (.int .i64)],[(.list true .str)],none⟩
abbrev C7:aZ:=⟨[.val (.int .i64)],[.str],none⟩
abbrev yR:aZ:=⟨[.val db,.val (.int .i64)],[(.int .i64)],none⟩
abbrev Bz:aZ:=⟨[.val (.list false (.int .i64)),.val (.int .i64)],[(.int .i64)],none⟩
abbrev zF:aZ:=⟨[.val lP],[(.list true .str)],none⟩
abbrev ym:aZ:=⟨[.val dL],[dL],none⟩
abbrev xS:aZ:=⟨[.val db],[Ab],none⟩
abbrev BP:aZ:=⟨[.val (.list false (.int .i64))],[(.list true (.int .i64))],none⟩
abbrev BO:aZ:=⟨[.val tD],[.bool],none⟩
abbrev BB:aZ:=⟨[.val (.ptr lP),.val (.int .i64)],[.bool],none⟩
abbrev wT:aZ:=⟨[.val (.ptr lP),.val (.int .i64)],[.bool],none⟩
abbrev oL:aZ:=⟨[.val (.ptr gU),.val (.int .i64)],[.bool],none⟩
abbrev AS:aZ:=⟨[.val lP],[(.list true .str)],none⟩
abbrev wq:aZ:=⟨[.val (.list false bO),.val (.list false bO)],[.bool],none⟩
abbrev yf:aZ:=⟨[.val (.list false k8),.val (.list false k8)],[.bool],none⟩
abbrev zM:aZ:=⟨[.val dL,.val dL],[.bool],none⟩
abbrev xW:aZ:=⟨[.val db,.val db],[.bool],none⟩
abbrev AP:aZ:=⟨[.val (.list false (.int .i64)),.val (.list false (.int .i64))],[.bool],none⟩
abbrev oI:aZ:=⟨[.val (.int .i64)],[(.int .i64)],some (false,(.list true bJ))⟩
abbrev sD:aZ:=⟨[.val (.int .i64)],[(.int .i64)],some (false,(.list true bO))⟩
abbrev uM:aZ:=⟨[.val (.int .i64)],[(.int .i64)],some (false,(.list true NK))⟩
abbrev wR:aZ:=⟨[.val (.list false bO),.val (.int .i64)],[(.int .i64)],none⟩
abbrev zw:aZ:=⟨[.val (.list false k8),.val (.int .i64)],[(.int .i64)],none⟩
abbrev Bg:aZ:=⟨[.val tD],[.bool],none⟩
abbrev yY:aZ:=⟨[.val lP,.val bJ],[.bool],none⟩
abbrev yj:aZ:=⟨[.val gU],[(.list true (.int .i64))],none⟩
abbrev A3:aZ:=⟨[.val (.list false (.int .i64)),.val (.int .i64)],[.bool],none⟩
abbrev zh:aZ:=⟨[.val gL,.val (.int .i64)],[.str],none⟩
abbrev uz:aZ:=⟨[.val .str,.val (.int .i64),.val (.int .i64)],[(.int .i64),.bool],none⟩
abbrev Ej:aZ:=⟨[.val gL,.val (.list false bO)],[.bool],none⟩
abbrev pC:aZ:=⟨[.val (.int .i64),.val (.list false bO)],[.str],none⟩
abbrev wo:aZ:=⟨[.val (.list false .str)],[QR,.bool],none⟩
abbrev sP:aZ:=⟨[.val gL],[(.list true .str)],none⟩
abbrev wg:aZ:=⟨[.val (.list false .str),.val (.list false .str)],[.bool],none⟩
abbrev uw:aZ:=⟨[.val db,.val db],[.bool],none⟩
abbrev wm:aZ:=⟨[.val (.list false bO)],[(.list true bO)],none⟩
abbrev yr:aZ:=⟨[.val (.list false k8)],[(.list true NK)],none⟩
abbrev uu:aZ:=⟨[.val (.ptr gL),.val (.int .i64)],[.str],none⟩
abbrev uU:aZ:=⟨[.val .str,.val (.int .i64),.val (.int .i64)],[(.int .i64),.bool],none⟩
abbrev pE:aZ:=⟨[.val (.int .i64),.val (.list false bO)],[.str],none⟩
abbrev D1:aZ:=⟨[.val gL,.val (.list false bO)],[.bool],none⟩
abbrev wk:aZ:=⟨[.val (.list false .str)],[QR,.bool],none⟩
abbrev dZ:aZ:=⟨[.val (.list false dL),.val (.list false dL)],[.bool],none⟩
abbrev tW:aZ:=⟨[.val db,.val db],[.bool],none⟩
abbrev gW:aZ:=⟨[.val (.list false .str),.val (.list false .str)],[.bool],none⟩
abbrev zl:aZ:=⟨[.val db],[.bool],none⟩
abbrev yO:aZ:=⟨[.val lP],[(.list true .bool),.bool],none⟩
abbrev xk:aZ:=⟨[.val .str],[.bool],none⟩
abbrev wN:aZ:=⟨[.val (.int .i64),.val (.list false bO)],[(.list true jd)],none⟩
abbrev rL:aZ:=⟨[.val (.list false .str),.val (.list false .str)],[(.list true bO)],none⟩
abbrev xV:aZ:=⟨[.val db],[.bool],none⟩
abbrev rY:aZ:=⟨[.val (.int .i64)],[(.int .i64)],none⟩
abbrev xh:aZ:=⟨[.val .str],[.bool],none⟩
abbrev wG:aZ:=⟨[.val (.int .i64),.val (.list false bO)],[(.list true jd)],none⟩
abbrev rP:aZ:=⟨[.val (.list false .str),.val (.list false .str)],[(.list true bO)],none⟩
abbrev yu:aZ:=⟨[.val bO,.val bO],[.bool],none⟩
abbrev qf:aZ:=⟨[.val (.list false bJ),.val (.int .i64)],[(.int .i64)],none⟩
abbrev xe:aZ:=⟨[.val lP],[.str],none⟩
abbrev BC:aZ:=⟨[.val .str,.val (.int .i64)],[(.list true .str)],none⟩
abbrev uE:aZ:=⟨[.val db],[.str],none⟩
abbrev qE:aZ:=⟨[.val (.list false bJ)],[(.list true bJ)],none⟩
abbrev kj:aZ:=⟨[.val (.list false (.int .i64)),.val (.int .i64)],[.bool],none⟩
abbrev Bx:aZ:=⟨[.val (.int .i64)],[.bool],none⟩
abbrev wJ:aZ:=⟨[.val (.ptr lP)],[.str],none⟩
abbrev AT:aZ:=⟨[.val .str,.val (.int .i64)],[(.list true .str)],none⟩
abbrev uR:aZ:=⟨[.val db],[.str],none⟩
abbrev Bt:aZ:=⟨[.val k8,.val k8],[.bool],none⟩
abbrev qp:aZ:=⟨[.val (.list false bJ),.val (.list false bJ)],[.bool],none⟩
abbrev ue:aZ:=⟨[.val (.int .i64)],[(.int .i64)],some (false,(.list true bJ))⟩
abbrev zC:aZ:=⟨[.val bO,.val (.int .i64)],[(.int .i64)],none⟩
abbrev BD:aZ:=⟨[.val k8,.val (.int .i64)],[(.int .i64)],none⟩
abbrev xI:aZ:=⟨[.val (.int .i64)],[.bool],none⟩
abbrev DZ:aZ:=⟨[.val (.list false bO)],[.bool],none⟩
abbrev uL:aZ:=⟨[.val (.int .i64),.val (.int .i64)],[.str],none⟩
abbrev rU:aZ:=⟨[.val .str],[(.int .i64)],none⟩
abbrev rB:aZ:=⟨[.val .str],[Ab,.bool],none⟩
abbrev zp:aZ:=⟨[.val (.list false (.int .i64)),.val (.list false (.int .i64))],[.bool],none⟩
abbrev zn:aZ:=⟨[.val (.list false bJ),.val (.list false bJ)],[.bool],none⟩
abbrev yx:aZ:=⟨[.val bO],[bO],none⟩
abbrev By:aZ:=⟨[.val k8],[NK],none⟩
abbrev A6:aZ:=⟨[.val (.list false bO)],[.bool],none⟩
abbrev uC:aZ:=⟨[.val (.int .i64),.val (.int .i64)],[.str],none⟩
abbrev E4:aZ:=⟨[.val .str,.val (.int .i64)],[.str],none⟩
abbrev sK:aZ:=⟨[.val .str],[(.int .i64)],none⟩
abbrev rz:aZ:=⟨[.val .str],[Ab,.bool],none⟩
abbrev Hk:aZ:=⟨[.val (.list false .str),.val .str],[.str],none⟩
abbrev dV:aZ:=⟨[.val (.list false .str)],[(.list true .str)],none⟩
abbrev mg:aZ:=⟨[.val (.list false (.int .i64)),.val (.list false (.int .i64))],[.bool],none⟩
abbrev c8:aZ:=⟨[.val (.list false bJ),.val (.list false bJ)],[.bool],none⟩
abbrev zE:aZ:=⟨[.val (.int .i64)],[.bool],none⟩
abbrev pH:aZ:=⟨[.val (.int .i64)],[(.int .i64)],none⟩
abbrev C0:aZ:=⟨[.val (.list false bJ)],[.bool],none⟩
abbrev sS:aZ:=⟨[.val (.int .i64)],[(.int .i64)],none⟩
abbrev oA:aZ:=⟨[.val (.list false bO)],[(.list true bO)],none⟩
abbrev wI:aZ:=⟨[],[(.list true jd)],none⟩
abbrev Bk:aZ:=⟨[.val (.int .i64)],[.bool],none⟩
abbrev pA:aZ:=⟨[.val (.int .i64)],[(.int .i64)],none⟩
abbrev E2:aZ:=⟨[.val (.list false bJ)],[.bool],none⟩
abbrev sA:aZ:=⟨[.val (.list false bO)],[(.list true jd)],none⟩
abbrev pz:aZ:=⟨[.val (.list false bO)],[(.list true jd)],none⟩
abbrev yL:aZ:=⟨[.val (.list false bJ)],[.str],none⟩
abbrev sw:aZ:=⟨[.val bJ],[bJ],none⟩
abbrev mV:aZ:=⟨[.val (.list false (.int .i64)),.val (.int .i64)],[(.int .i64)],none⟩
abbrev ye:aZ:=⟨[.val (.list false bJ)],[.str],none⟩
abbrev yy:aZ:=⟨[.val (.list false bJ),.val (.list false bJ)],[.bool],none⟩
abbrev rT:aZ:=⟨[.val bJ,.val bJ],[.bool],none⟩
abbrev xZ:aZ:=⟨[.val (.list false bJ),.val (.int .i64)],[(.int .i64)],none⟩
abbrev uQ:aZ:=⟨[.val .str],[(.list true bJ),.bool],none⟩
abbrev yT:aZ:=⟨[.val (.list false bJ)],[(.list true bJ)],none⟩
abbrev nN:aZ:=⟨[.val .str,.val (.int .i64)],[.str],none⟩
abbrev uv:aZ:=⟨[.val .str],[(.list true bJ),.bool],none⟩
abbrev ql:aZ:=⟨[.val (.list false .str),.val .str],[.str],none⟩
abbrev wv:aZ:=⟨[.val bJ],[.bool],none⟩
abbrev Ed:aZ:=⟨[.val (.list false (.int .i64))],[(.int .i64)],none⟩
abbrev su:aZ:=⟨[.val (.int .i64),.val (.int .i64)],[(.int .i64)],none⟩
abbrev AX:aZ:=⟨[.val bJ,.val bJ],[.bool],none⟩
abbrev Bj:aZ:=⟨[.val bJ],[bJ],none⟩
abbrev wh:aZ:=⟨[.val (.int .i64)],[.bool],none⟩
noncomputable def exts:List WB:=[⟨85,dJ,bE⟩,⟨192,dV,dD⟩,⟨223,nN,dA⟩,⟨226,ql,eJ⟩]
noncomputable def Wh:Wu:={
 ty:=[(2,(.int .i64)),(3,(.int .i64)),(4,.bool),(5,(.int .u8)),(9,.str),(22,(.list false .str)),(23,(.list false bO)),(25,gL),(26,(.list false dL)),(27,(.list false db)),(29,lP),(30,(.list false k8)),(32,gU),(34,dC),(41,(.list false dL)),(42,(.list false db)),(44,lP),(60,(.list false bO)),(62,gL),(63,(.list false k8)),(65,gU),(67,dC),(72,(.list false jd)),(78,dL),(79,(.list false (.int .i64))),(81,tD),(87,tD),(121,bO),(123,jd),(125,(.list false bJ)),(127,db),(132,(.list false bJ)),(134,db),(137,(.list false bJ)),(139,k8),(142,dL),(147,bJ),(173,(.list false .bool)),(179,(.arr 56 .bool)),(183,(.list false (.int .u8))),(184,(.int .u64)),(195,(.ptr lP)),(201,bJ),(204,bO),(206,(.list false bJ)),(208,k8),(232,bJ),(246,bJ)],
 nf:=[(25,2),(29,4),(32,2),(34,3),(44,4),(62,2),(65,2),(67,3),(78,2),(81,3),(87,3),(121,2),(123,2),(127,10),(134,10),(139,2),(142,2),(147,3),(201,3),(204,2),(208,2),(232,3),(246,3)],
 el:=[(22,9,16),(23,121,24),(26,78,16),(27,127,128),(30,139,64),(72,123,32),(79,3,8),(125,201,24),(137,147,24),(173,4,1),(183,5,1)],
 UZ:=[1,152],
 eqs:=[78,121,123,142,147,201,204,232,246],
 sig:=[(6,fa),(12,GS),(15,Ht),(18,uj),(19,GI),(21,Bc),(23,qH),(25,uo),(26,uW),(27,ub),(28,uV),(29,qx),(30,qy),(31,xM),(32,uy),(33,tP),(36,wH),(37,xf),(38,u9),(39,AK),(42,wP),(43,wL),(44,uK),(45,BE),(47,wM),(49,AM),(50,wB),(51,wV),(52,wu),(53,u6),(54,BR),(55,sC),(56,si),(57,qc),(58,wz),(59,xc),(60,rF),(63,Br),(64,xi),(65,xl),(66,C5),(67,Bo),(68,qz),(69,Bl),(70,BJ),(71,BU),(72,wj),(73,AQ),(74,qo),(75,AZ),(76,BZ),(77,Hh),(78,wW),(79,GZ),(80,ox),(81,AU),(82,wE),(83,DS),(85,dJ),(86,C7),(87,yR),(88,Bz),(91,zF),(92,ym),(93,xS),(94,BP),(97,BO),(98,BB),(99,wT),(100,oL),(101,AS),(102,wq),(103,yf),(104,zM),(105,xW),(106,AP),(107,oI),(108,sD),(109,uM),(114,wR),(115,zw),(116,Bg),(117,yY),(118,yj),(119,A3),(120,zh),(121,uz),(122,Ej),(123,pC),(124,wo),(125,sP),(126,wg),(127,uw),(128,wm),(129,yr),(130,uu),(131,uU),(132,pE),(133,D1),(134,wk),(135,dZ),(137,tW),(138,gW),(139,zl),(140,yO),(141,xk),(142,wN),(143,rL),(144,xV),(145,rY),(146,xh),(147,wG),(148,rP),(149,yu),(151,qf),(155,xe),(156,BC),(157,uE),(158,qE),(161,kj),(164,Bx),(165,wJ),(166,AT),(167,uR),(168,Bt),(169,qp),(170,ue),(175,zC),(176,BD),(177,xI),(178,DZ),(179,uL),(180,rU),(181,rB),(182,zp),(183,zn),(184,yx),(185,By),(186,A6),(187,uC),(188,E4),(189,sK),(190,rz),(191,Hk),(192,dV),(193,mg),(194,c8),(195,zE),(196,pH),(197,C0),(198,sS),(199,oA),(200,wI),(201,Bk),(202,pA),(203,E2),(205,sA),(206,pz),(211,yL),(212,sw),(214,mV),(216,ye),(217,yy),(218,rT),(220,xZ),(221,uQ),(222,yT),(223,nN),(225,uv),(226,ql),(227,wv),(228,Ed),(229,su),(232,AX),(233,Bj),(239,wh)],
 body:=[(6,Tryz.f6),(12,Tryz.f12),(15,Tryz.f15),(18,Tryz.f18),(19,Tryz.f19),(21,Tryz.f21),(23,Tryz.f23),(25,Tryz.f25),(26,Tryz.f26),(27,Tryz.f27),(28,Tryz.f28),(29,Tryz.f29),(30,Tryz.f30),(31,Tryz.f31),(32,Tryz.f32),(33,Tryz.f33),(36,Tryz.f36),(37,Tryz.f37),(38,Tryz.f38),(39,Tryz.f39),(42,Tryz.f42),(43,Tryz.f43),(44,Tryz.f44),(45,Tryz.f45),(47,Tryz.f47),(49,Tryz.f49),(50,Tryz.f50),(51,Tryz.f51),(52,Tryz.f52),(53,Tryz.f53),(54,Tryz.f54),(55,Tryz.f55),(56,Tryz.f56),(57,Tryz.f57),(58,Tryz.f58),(59,Tryz.f59),(60,Tryz.f60),(63,Tryz.f63),(64,Tryz.f64),(65,Tryz.f65),(66,Tryz.f66),(67,Tryz.f67),(68,Tryz.f68),(69,Tryz.f69),(70,Tryz.f70),(71,Tryz.f71),(72,Tryz.f72),(73,Tryz.f73),(74,Tryz.f74),(75,Tryz.f75),(76,Tryz.f76),(77,Tryz.f77),(78,Tryz.f78),(79,Tryz.f79),(80,Tryz.f80),(81,Tryz.f81),(82,Tryz.f82),(83,Tryz.f83),(86,Tryz.f86),(87,Tryz.f87),(88,Tryz.f88),(91,Tryz.f91),(92,Tryz.f92),(93,Tryz.f93),(94,Tryz.f94),(97,Tryz.f97),(98,Tryz.f98),(99,Tryz.f99),(100,Tryz.f100),(101,Tryz.f101),(102,Tryz.f102),(103,Tryz.f103),(104,Tryz.f104),(105,Tryz.f105),(106,Tryz.f106),(107,Tryz.f107),(108,Tryz.f108),(109,Tryz.f109),(114,Tryz.f114),(115,Tryz.f115),(116,Tryz.f116),(117,Tryz.f117),(118,Tryz.f118),(119,Tryz.f119),(120,Tryz.f120),(121,Tryz.f121),(122,Tryz.f122),(123,Tryz.f123),(124,Tryz.f124),(125,Tryz.f125),(126,Tryz.f126),(127,Tryz.f127),(128,Tryz.f128),(129,Tryz.f129),(130,Tryz.f130),(131,Tryz.f131),(132,Tryz.f132),(133,Tryz.f133),(134,Tryz.f134),(135,Tryz.f135),(136,Tryz.f136),(137,Tryz.f137),(138,Tryz.f138),(139,Tryz.f139),(140,Tryz.f140),(141,Tryz.f141),(142,Tryz.f142),(143,Tryz.f143),(144,Tryz.f144),(145,Tryz.f145),(146,Tryz.f146),(147,Tryz.f147),(148,Tryz.f148),(149,Tryz.f149),(151,Tryz.f151),(155,Tryz.f155),(156,Tryz.f156),(157,Tryz.f157),(158,Tryz.f158),(161,Tryz.f161),(164,Tryz.f164),(165,Tryz.f165),(166,Tryz.f166),(167,Tryz.f167),(168,Tryz.f168),(169,Tryz.f169),(170,Tryz.f170),(175,Tryz.f175),(176,Tryz.f176),(177,Tryz.f177),(178,Tryz.f178),(179,Tryz.f179),(180,Tryz.f180),(181,Tryz.f181),(182,Tryz.f182),(183,Tryz.f183),(184,Tryz.f184),(185,Tryz.f185),(186,Tryz.f186),(187,Tryz.f187),(188,Tryz.f188),(189,Tryz.f189),(190,Tryz.f190),(191,Tryz.f191),(193,Tryz.f193),(194,Tryz.f194),(195,Tryz.f195),(196,Tryz.f196),(197,Tryz.f197),(198,Tryz.f198),(199,Tryz.f199),(200,Tryz.f200),(201,Tryz.f201),(202,Tryz.f202),(203,Tryz.f203),(204,Tryz.f204),(205,Tryz.f205),(206,Tryz.f206),(211,Tryz.f211),(212,Tryz.f212),(214,Tryz.f214),(216,Tryz.f216),(217,Tryz.f217),(218,Tryz.f218),(220,Tryz.f220),(221,Tryz.f221),(222,Tryz.f222),(224,Tryz.f224),(225,Tryz.f225),(227,Tryz.f227),(228,Tryz.f228),(229,Tryz.f229),(232,Tryz.f232),(233,Tryz.f233),(239,Tryz.f239)]}
noncomputable def E1:Env:=Wh.env (Ec exts)
noncomputable def H1:Nat→Hints:=fun f=>(Eng.look [(31,⟨fun r=>(Eng.look [(4,[(0,none),(1,none),(5,none)])] r).getD [],fun r=>Eng.look [] r⟩),
 (32,⟨fun r=>(Eng.look [(2,[(0,none),(1,none),(5,none)])] r).getD [],fun r=>Eng.look [] r⟩),
 (33,⟨fun r=>(Eng.look [(2,[(0,none),(1,none),(5,none)])] r).getD [],fun r=>Eng.look [] r⟩),
 (37,⟨fun r=>(Eng.look [(5,[(0,none),(1,none),(5,none)])] r).getD [],fun r=>Eng.look [] r⟩),
 (38,⟨fun r=>(Eng.look [(5,[(0,none),(1,none),(5,none)])] r).getD [],fun r=>Eng.look [] r⟩),
 (42,⟨fun r=>(Eng.look [(3,[(0,none),(3,none),(4,none)])] r).getD [],fun r=>Eng.look [] r⟩),
 (43,⟨fun r=>(Eng.look [(3,[(0,none),(3,none),(4,none)])] r).getD [],fun r=>Eng.look [] r⟩),
 (44,⟨fun r=>(Eng.look [(3,[(0,none),(3,none),(4,none)])] r).getD [],fun r=>Eng.look [] r⟩),
 (47,⟨fun r=>(Eng.look [(4,[(1,none),(20,none),(21,none),(22,none)]),(9,[(1,none),(20,none),(21,none),(22,none),(37,none),(38,none),(39,none)]),(17,[(1,none),(87,none),(88,none),(89,none)])] r).getD [],fun r=>Eng.look [] r⟩),
 (51,⟨fun r=>(Eng.look [(4,[(0,none),(1,none),(5,none)])] r).getD [],fun r=>Eng.look [] r⟩),
 (52,⟨fun r=>(Eng.look [(4,[(0,none),(1,none),(5,none)])] r).getD [],fun r=>Eng.look [] r⟩),
 (53,⟨fun r=>(Eng.look [(4,[(0,none),(1,none),(5,none)])] r).getD [],fun r=>Eng.look [] r⟩),
 (55,⟨fun r=>(Eng.look [(2,[(0,none),(1,none),(5,none)])] r).getD [],fun r=>Eng.look [] r⟩),
 (56,⟨fun r=>(Eng.look [(2,[(0,none),(1,none),(5,none)])] r).getD [],fun r=>Eng.look [] r⟩),
 (57,⟨fun r=>(Eng.look [(2,[(0,none),(1,none),(5,none)])] r).getD [],fun r=>Eng.look [] r⟩),
 (58,⟨fun r=>(Eng.look [(2,[(0,none),(1,none),(5,none)])] r).getD [],fun r=>Eng.look [] r⟩),
 (65,⟨fun r=>(Eng.look [(4,[(1,none),(21,none),(22,none),(23,none)]),(9,[(1,none),(21,none),(22,none),(23,none),(38,none),(39,none),(40,none)]),(17,[(7,none),(55,none),(56,none),(57,none)])] r).getD [],fun r=>Eng.look [] r⟩),
 (67,⟨fun r=>(Eng.look [(2,[(1,none),(8,none),(9,none),(10,none)]),(8,[(1,none),(19,none),(20,none),(21,none)])] r).getD [],fun r=>Eng.look [] r⟩),
 (68,⟨fun r=>(Eng.look [(10,[(1,none),(5,none),(6,none),(8,none),(10,none),(11,none)])] r).getD [],fun r=>Eng.look [] r⟩),
 (70,⟨fun r=>(Eng.look [(4,[(2,none),(3,none),(41,none),(42,none),(43,none)]),(10,[(3,none),(57,none),(58,none),(59,none)])] r).getD [],fun r=>Eng.look [] r⟩),
 (73,⟨fun r=>(Eng.look [(4,[(1,none),(18,none),(19,none),(20,none)]),(10,[(1,none),(29,none),(30,none),(31,none)])] r).getD [],fun r=>Eng.look [] r⟩),
 (74,⟨fun r=>(Eng.look [(10,[(1,none),(5,none),(6,none),(10,none),(37,none),(38,none)])] r).getD [],fun r=>Eng.look [] r⟩),
 (75,⟨fun r=>(Eng.look [(5,[(1,none),(2,none),(4,none),(19,none),(20,none)])] r).getD [],fun r=>Eng.look [] r⟩),
 (77,⟨fun r=>(Eng.look [(4,[(1,none),(37,none),(38,none),(39,none)]),(10,[(1,none),(55,none),(56,none),(57,none)]),(21,[(1,none),(7,none),(79,none),(80,none),(81,none)]),(27,[(1,none),(103,none),(104,none),(105,none)])] r).getD [],fun r=>Eng.look [] r⟩),
 (79,⟨fun r=>(Eng.look [(4,[(1,none),(42,none),(43,none),(44,none)]),(10,[(1,none),(68,none),(69,none),(70,none)]),(17,[(1,none),(7,none),(79,none),(80,none),(81,none)]),(22,[(1,none),(7,none),(9,none),(79,none),(80,none),(81,none),(89,none),(90,none),(91,none)]),(34,[(1,none),(7,none),(131,none),(132,none),(133,none)])] r).getD [],fun r=>Eng.look [] r⟩),
 (82,⟨fun r=>(Eng.look [(4,[(0,none),(3,none)])] r).getD [],fun r=>Eng.look [] r⟩),
 (83,⟨fun r=>(Eng.look [(4,[(1,none),(5,none)])] r).getD [],fun r=>Eng.look [] r⟩),
 (91,⟨fun r=>(Eng.look [(2,[(1,none),(3,none)]),(5,[(1,none),(3,none),(17,none),(18,none),(19,none)])] r).getD [],fun r=>Eng.look [] r⟩),
 (94,⟨fun r=>(Eng.look [(3,[(0,none),(3,none),(4,none)])] r).getD [],fun r=>Eng.look [] r⟩),
 (97,⟨fun r=>(Eng.look [(2,[(1,none),(6,none),(7,none),(8,none)])] r).getD [],fun r=>Eng.look [] r⟩),
 (100,⟨fun r=>(Eng.look [(2,[(1,none),(12,none),(13,none),(14,none)]),(5,[(1,none),(12,none),(13,none),(14,none),(19,none),(20,none),(21,none)])] r).getD [],fun r=>Eng.look [] r⟩),
 (101,⟨fun r=>(Eng.look [(5,[(1,none),(3,none),(16,none),(17,none),(18,none)])] r).getD [],fun r=>Eng.look [] r⟩),
 (102,⟨fun r=>(Eng.look [(4,[(0,none),(1,none),(5,none)])] r).getD [],fun r=>Eng.look [] r⟩),
 (103,⟨fun r=>(Eng.look [(4,[(0,none),(1,none),(5,none)])] r).getD [],fun r=>Eng.look [] r⟩),
 (106,⟨fun r=>(Eng.look [(4,[(0,none),(1,none),(5,none)])] r).getD [],fun r=>Eng.look [] r⟩),
 (107,⟨fun r=>(Eng.look [(2,[(0,none),(1,none),(5,none)])] r).getD [],fun r=>Eng.look [] r⟩),
 (108,⟨fun r=>(Eng.look [(2,[(0,none),(1,none),(5,none)])] r).getD [],fun r=>Eng.look [] r⟩),
 (109,⟨fun r=>(Eng.look [(2,[(0,none),(1,none),(5,none)])] r).getD [],fun r=>Eng.look [] r⟩),
 (114,⟨fun r=>(Eng.look [(5,[(0,none),(1,none),(5,none)])] r).getD [],fun r=>Eng.look [] r⟩),
 (115,⟨fun r=>(Eng.look [(5,[(0,none),(1,none),(5,none)])] r).getD [],fun r=>Eng.look [] r⟩),
 (116,⟨fun r=>(Eng.look [(2,[(1,none),(6,none),(7,none),(8,none)])] r).getD [],fun r=>Eng.look [] r⟩),
 (118,⟨fun r=>(Eng.look [(3,[(1,none),(3,none),(4,none)]),(7,[(1,none),(3,none),(4,none),(5,none),(16,none),(17,none),(18,none)]),(10,[(1,none),(3,none),(4,none),(5,none),(16,none),(17,none),(18,none),(23,none),(24,none),(25,none)])] r).getD [],fun r=>Eng.look [] r⟩),
 (119,⟨fun r=>(Eng.look [(2,[(1,none),(7,none),(8,none),(9,none)])] r).getD [],fun r=>Eng.look [] r⟩),
 (120,⟨fun r=>(Eng.look [(2,[(1,none),(2,none),(5,none)])] r).getD [],fun r=>Eng.look [] r⟩),
 (121,⟨fun r=>(Eng.look [(5,[(0,none),(1,none),(2,none),(8,none),(9,none)])] r).getD [],fun r=>Eng.look [] r⟩),
 (122,⟨fun r=>(Eng.look [(4,[(1,none),(2,none),(22,none),(23,none),(24,none)])] r).getD [],fun r=>Eng.look [] r⟩),
 (123,⟨fun r=>(Eng.look [(5,[(0,none),(1,none),(5,none),(16,none),(17,none),(18,none)])] r).getD [],fun r=>Eng.look [] r⟩),
 (124,⟨fun r=>(Eng.look [(6,[(0,none),(2,none),(4,none),(5,none)]),(10,[(0,none),(2,none),(4,none),(6,none)]),(20,[(0,none),(2,none),(4,none),(107,none),(108,none),(109,none)])] r).getD [],fun r=>Eng.look [] r⟩),
 (125,⟨fun r=>(Eng.look [(3,[(3,none),(11,none),(12,none),(13,none)])] r).getD [],fun r=>Eng.look [] r⟩),
 (126,⟨fun r=>(Eng.look [(4,[(1,none),(12,none),(13,none),(14,none)])] r).getD [],fun r=>Eng.look [] r⟩),
 (128,⟨fun r=>(Eng.look [(3,[(0,none),(3,none),(4,none)])] r).getD [],fun r=>Eng.look [] r⟩),
 (129,⟨fun r=>(Eng.look [(3,[(0,none),(3,none),(4,none)])] r).getD [],fun r=>Eng.look [] r⟩),
 (130,⟨fun r=>(Eng.look [(2,[(0,none),(1,none),(5,none)])] r).getD [],fun r=>Eng.look [] r⟩),
 (131,⟨fun r=>(Eng.look [(5,[(0,none),(1,none),(8,none),(28,none),(29,none)])] r).getD [],fun r=>Eng.look [] r⟩),
 (132,⟨fun r=>(Eng.look [(5,[(0,none),(1,none),(5,none),(19,none),(20,none),(21,none)])] r).getD [],fun r=>Eng.look [] r⟩),
 (133,⟨fun r=>(Eng.look [(4,[(1,none),(2,none),(26,none),(27,none),(28,none)])] r).getD [],fun r=>Eng.look [] r⟩),
 (134,⟨fun r=>(Eng.look [(6,[(0,none),(2,none),(5,none),(6,none),(30,none)]),(14,[(0,none),(2,none),(5,none),(6,none),(69,none)]),(23,[(0,none),(2,none),(6,none),(110,none),(111,none),(112,none)])] r).getD [],fun r=>Eng.look [] r⟩),
 (135,⟨fun r=>(Eng.look [(4,[(0,none),(1,none),(12,none),(13,none)])] r).getD [],fun r=>Eng.look [] r⟩),
 (136,⟨fun r=>(Eng.look [(4,[(1,none),(2,none),(15,none),(16,none),(17,none)])] r).getD [],fun r=>Eng.look [] r⟩),
 (138,⟨fun r=>(Eng.look [(4,[(0,none),(1,none),(12,none),(13,none)])] r).getD [],fun r=>Eng.look [] r⟩),
 (139,⟨fun r=>(Eng.look [(6,[(1,none),(65,none),(66,none),(67,none)])] r).getD [],fun r=>Eng.look [(5,[(1,none)]),(13,[(1,none)])] r⟩),
 (140,⟨fun r=>(Eng.look [(3,[(4,none),(11,none),(12,none),(13,none)]),(6,[(4,none),(6,none),(11,none),(12,none),(13,none),(18,none),(19,none),(20,none)])] r).getD [],fun r=>Eng.look [] r⟩),
 (141,⟨fun r=>(Eng.look [(2,[(0,none),(3,none)])] r).getD [],fun r=>Eng.look [] r⟩),
 (142,⟨fun r=>(Eng.look [(7,[(1,none),(5,none),(6,none),(25,none),(26,none),(27,none)]),(13,[(5,none),(45,none),(46,none),(47,none)])] r).getD [],fun r=>Eng.look [] r⟩),
 (143,⟨fun r=>(Eng.look [(5,[(0,none),(5,none),(17,none),(18,none),(19,none)])] r).getD [],fun r=>Eng.look [] r⟩),
 (144,⟨fun r=>(Eng.look [(10,[(1,none),(83,none),(84,none),(85,none)])] r).getD [],fun r=>Eng.look [(7,[(1,none)])] r⟩),
 (146,⟨fun r=>(Eng.look [(2,[(0,none),(5,none),(6,none)])] r).getD [],fun r=>Eng.look [] r⟩),
 (148,⟨fun r=>(Eng.look [(5,[(0,none),(5,none),(17,none),(18,none),(19,none)])] r).getD [],fun r=>Eng.look [] r⟩),
 (155,⟨fun r=>(Eng.look [(3,[(3,none),(11,none),(12,none),(13,none)])] r).getD [],fun r=>Eng.look [] r⟩),
 (156,⟨fun r=>(Eng.look [(4,[(0,none),(1,none),(5,none)])] r).getD [],fun r=>Eng.look [] r⟩),
 (157,⟨fun r=>(Eng.look [(5,[(1,none),(3,none),(4,none)])] r).getD [],fun r=>Eng.look [] r⟩),
 (158,⟨fun r=>(Eng.look [(3,[(0,none),(3,none),(4,none)])] r).getD [],fun r=>Eng.look [] r⟩),
 (165,⟨fun r=>(Eng.look [(3,[(3,none),(15,none),(16,none),(17,none)])] r).getD [],fun r=>Eng.look [] r⟩),
 (166,⟨fun r=>(Eng.look [(4,[(0,none),(1,none),(5,none)])] r).getD [],fun r=>Eng.look [] r⟩),
 (167,⟨fun r=>(Eng.look [(5,[(1,none),(3,none),(36,none)])] r).getD [],fun r=>Eng.look [] r⟩),
 (169,⟨fun r=>(Eng.look [(4,[(0,none),(1,none),(5,none)])] r).getD [],fun r=>Eng.look [] r⟩),
 (170,⟨fun r=>(Eng.look [(2,[(0,none),(1,none),(5,none)])] r).getD [],fun r=>Eng.look [] r⟩),
 (178,⟨fun r=>(Eng.look [(2,[(0,none),(5,none),(6,none),(7,none)])] r).getD [],fun r=>Eng.look [] r⟩),
 (179,⟨fun r=>(Eng.look [(5,[(0,none),(5,none),(6,none)])] r).getD [],fun r=>Eng.look [] r⟩),
 (180,⟨fun r=>(Eng.look [(4,[(0,none),(3,none),(4,none),(5,none)])] r).getD [],fun r=>Eng.look [] r⟩),
 (181,⟨fun r=>(Eng.look [(12,[(0,none),(2,none),(4,none),(5,none)])] r).getD [],fun r=>Eng.look [] r⟩),
 (182,⟨fun r=>(Eng.look [(4,[(1,none),(12,none),(13,none),(14,none)])] r).getD [],fun r=>Eng.look [] r⟩),
 (183,⟨fun r=>(Eng.look [(4,[(1,none),(12,none),(13,none),(14,none)])] r).getD [],fun r=>Eng.look [] r⟩),
 (186,⟨fun r=>(Eng.look [(2,[(0,none),(5,none),(6,none),(7,none)])] r).getD [],fun r=>Eng.look [] r⟩),
 (187,⟨fun r=>(Eng.look [(5,[(0,none),(5,none),(6,none)])] r).getD [],fun r=>Eng.look [] r⟩),
 (189,⟨fun r=>(Eng.look [(3,[(0,none),(3,none),(4,none),(7,none),(8,none)])] r).getD [],fun r=>Eng.look [] r⟩),
 (190,⟨fun r=>(Eng.look [(7,[(1,none),(2,none),(4,none),(5,none),(6,none),(33,none)])] r).getD [],fun r=>Eng.look [] r⟩),
 (193,⟨fun r=>(Eng.look [(4,[(0,none),(1,none),(12,none),(13,none)])] r).getD [],fun r=>Eng.look [] r⟩),
 (194,⟨fun r=>(Eng.look [(4,[(0,none),(1,none),(12,none),(13,none)])] r).getD [],fun r=>Eng.look [] r⟩),
 (197,⟨fun r=>(Eng.look [(2,[(0,none),(6,none),(7,none),(8,none)])] r).getD [],fun r=>Eng.look [] r⟩),
 (199,⟨fun r=>(Eng.look [(6,[(0,none),(3,none),(4,none),(15,none),(16,none),(17,none)]),(13,[(0,none),(3,none),(32,none),(33,none),(34,none)]),(18,[(3,none),(48,none),(49,none),(50,none)])] r).getD [],fun r=>Eng.look [] r⟩),
 (203,⟨fun r=>(Eng.look [(4,[(0,none),(8,none),(9,none),(10,none)])] r).getD [],fun r=>Eng.look [(17,[(0,none),(3,none),(4,none),(8,none),(9,none),(10,none)])] r⟩),
 (204,⟨fun r=>(Eng.look [(5,[(3,none),(4,none),(14,none),(15,none),(16,none)]),(14,[(4,none),(7,none),(41,none),(42,none),(43,none)])] r).getD [],fun r=>Eng.look [] r⟩),
 (205,⟨fun r=>(Eng.look [(3,[(3,none),(7,none),(8,none),(9,none)])] r).getD [],fun r=>Eng.look [] r⟩),
 (211,⟨fun r=>(Eng.look [(5,[(3,none),(12,none),(13,none),(14,none)])] r).getD [],fun r=>Eng.look [] r⟩),
 (214,⟨fun r=>(Eng.look [(2,[(0,none),(1,none),(7,none),(8,none)])] r).getD [],fun r=>Eng.look [] r⟩),
 (216,⟨fun r=>(Eng.look [(5,[(3,none),(12,none),(13,none),(14,none)])] r).getD [],fun r=>Eng.look [] r⟩),
 (217,⟨fun r=>(Eng.look [(4,[(0,none),(1,none),(5,none)])] r).getD [],fun r=>Eng.look [] r⟩),
 (221,⟨fun r=>(Eng.look [(5,[(0,none),(4,none),(5,none)])] r).getD [],fun r=>Eng.look [] r⟩),
 (222,⟨fun r=>(Eng.look [(3,[(0,none),(3,none),(4,none)])] r).getD [],fun r=>Eng.look [] r⟩),
 (225,⟨fun r=>(Eng.look [(5,[(0,none),(4,none),(17,none),(18,none)])] r).getD [],fun r=>Eng.look [] r⟩),
 (228,⟨fun r=>(Eng.look [(3,[(3,none),(6,none),(7,none),(8,none)])] r).getD [],fun r=>Eng.look [] r⟩)] f).getD ⟨fun _=>[],fun _=>none⟩
noncomputable def kh(k:Nat)(x:(aY×cQ)):Option Bool:=aH E1 H1 k 6 fa x
noncomputable def rV(k:Nat)(x:(cQ×Int)):Option Int:=aH E1 H1 k 12 GS x
noncomputable def iZ(k:Nat)(x:cQ):Option cQ:=aH E1 H1 k 15 Ht x
noncomputable def nC(k:Nat)(x:(aY×aY)):Option Bool:=aH E1 H1 k 18 uj x
noncomputable def rJ(k:Nat)(x:(cQ×cQ)):Option Bool:=aH E1 H1 k 19 GI x
noncomputable def nZ(k:Nat)(x:(cQ×Int)):Option Int:=aH E1 H1 k 21 Bc x
noncomputable def lx(k:Nat)(x:Pq):Option Int:=aH E1 H1 k 23 qH x
noncomputable def ny(k:Nat)(x:Pq):Option Int:=aH E1 H1 k 25 uo x
noncomputable def nG(k:Nat)(x:aY):Option Bool:=aH E1 H1 k 26 uW x
noncomputable def eI(k:Nat)(x:aY):Option aY:=aH E1 H1 k 27 ub x
noncomputable def ng(k:Nat)(x:aY):Option Bool:=aH E1 H1 k 28 uV x
noncomputable def ln(k:Nat)(x:(aY×cQ)):Option (List DStep):=aH E1 H1 k 29 qx x
noncomputable def gT(k:Nat)(x:(aY×cQ)):Option (List DStep):=aH E1 H1 k 30 qy x
noncomputable def iX(k:Nat)(x:((List DStep)×(List DStep))):Option Bool:=aH E1 H1 k 31 xM x
noncomputable def nk(k:Nat)(x:((List DStep)×Int)):Option (Int×(List DStep)):=aH E1 H1 k 32 uy x
noncomputable def jC(k:Nat)(x:((List DStep)×Int)):Option Int:=aH E1 H1 k 33 tP x
noncomputable def pa(k:Nat)(x:((List az)×Int)):Option Int:=aH E1 H1 k 36 wH x
noncomputable def py(k:Nat)(x:((List ax)×Int)):Option Int:=aH E1 H1 k 37 xf x
noncomputable def kf(k:Nat)(x:((List ByteArray)×Int)):Option Int:=aH E1 H1 k 38 u9 x
noncomputable def tg(k:Nat)(x:(fG×Int)):Option Int:=aH E1 H1 k 39 AK x
noncomputable def po(k:Nat)(x:(List az)):Option (List az):=aH E1 H1 k 42 wP x
noncomputable def oY(k:Nat)(x:(List ax)):Option (List ax):=aH E1 H1 k 43 wL x
noncomputable def jG(k:Nat)(x:(List ByteArray)):Option (List ByteArray):=aH E1 H1 k 44 uK x
noncomputable def tf(k:Nat)(x:fG):Option fG:=aH E1 H1 k 45 BE x
noncomputable def oR(k:Nat)(x:bx):Option Bool:=aH E1 H1 k 47 wM x
noncomputable def tn(k:Nat)(x:(bF×bF)):Option Bool:=aH E1 H1 k 49 AM x
noncomputable def pf(k:Nat)(x:(bx×bx)):Option Bool:=aH E1 H1 k 50 wB x
noncomputable def ph(k:Nat)(x:((List az)×(List az))):Option Bool:=aH E1 H1 k 51 wV x
noncomputable def pc(k:Nat)(x:((List ax)×(List ax))):Option Bool:=aH E1 H1 k 52 wu x
noncomputable def ke(k:Nat)(x:((List ByteArray)×(List ByteArray))):Option Bool:=aH E1 H1 k 53 u6 x
noncomputable def tI(k:Nat)(x:(fG×fG)):Option Bool:=aH E1 H1 k 54 BR x
noncomputable def mL(k:Nat)(x:((List az)×Int)):Option (Int×(List az)):=aH E1 H1 k 55 sC x
noncomputable def mF(k:Nat)(x:((List ax)×Int)):Option (Int×(List ax)):=aH E1 H1 k 56 si x
noncomputable def gN(k:Nat)(x:((List ByteArray)×Int)):Option (Int×(List ByteArray)):=aH E1 H1 k 57 qc x
noncomputable def kH(k:Nat)(x:((List Int)×Int)):Option (Int×(List Int)):=aH E1 H1 k 58 wz x
noncomputable def o9(k:Nat)(x:(bF×Int)):Option Int:=aH E1 H1 k 59 xc x
noncomputable def sx(k:Nat)(x:(bx×Int)):Option Int:=aH E1 H1 k 60 rF x
noncomputable def tH(k:Nat)(x:(bF×Int)):Option Int:=aH E1 H1 k 63 Br x
noncomputable def o4(k:Nat)(x:(bx×Int)):Option Int:=aH E1 H1 k 64 xi x
noncomputable def pq(k:Nat)(x:bx):Option Bool:=aH E1 H1 k 65 xl x
noncomputable def aE(k:Nat)(x:av):Option Bool:=aH E1 H1 k 66 C5 x
noncomputable def il(k:Nat)(x:bF):Option Bool:=aH E1 H1 k 67 Bo x
noncomputable def lq(k:Nat)(x:bF):Option (Int×((List ar)×Bool)):=aH E1 H1 k 68 qz x
noncomputable def tL(k:Nat)(x:bF):Option (cQ×Bool):=aH E1 H1 k 69 Bl x
noncomputable def tc(k:Nat)(x:(cQ×cQ)):Option Bool:=aH E1 H1 k 70 BJ x
noncomputable def sY(k:Nat)(x:bF):Option bF:=aH E1 H1 k 71 BU x
noncomputable def pk(k:Nat)(x:bx):Option bx:=aH E1 H1 k 72 wj x
noncomputable def iu(k:Nat)(x:bF):Option Bool:=aH E1 H1 k 73 AQ x
noncomputable def ll(k:Nat)(x:bF):Option (Int×((List ar)×Bool)):=aH E1 H1 k 74 qo x
noncomputable def s6(k:Nat)(x:bF):Option (cQ×Bool):=aH E1 H1 k 75 AZ x
noncomputable def s8(k:Nat)(x:(cQ×cQ)):Option Bool:=aH E1 H1 k 76 BZ x
noncomputable def oH(k:Nat)(x:cQ):Option Bool:=aH E1 H1 k 77 Hh x
noncomputable def xp(k:Nat)(x:(cQ×(cQ×Int))):Option (List DStep):=aH E1 H1 k 78 wW x
noncomputable def jc(k:Nat)(x:cQ):Option Bool:=aH E1 H1 k 79 GZ x
noncomputable def oP(k:Nat)(x:((Option aY)×cQ)):Option (List DStep):=aH E1 H1 k 80 ox x
noncomputable def nW(k:Nat)(x:(DStep×DStep)):Option Bool:=aH E1 H1 k 81 AU x
noncomputable def dn(k:Nat)(x:Int):Option ByteArray:=aH E1 H1 k 82 wE x
noncomputable def dE(k:Nat)(x:dh):Option ByteArray:=aH E1 H1 k 83 DS x
noncomputable def dG(k:Nat)(x:((List ByteArray)×Int)):Option (List ByteArray):=aH E1 H1 k 85 dJ x
noncomputable def pL(k:Nat)(x:Int):Option ByteArray:=aH E1 H1 k 86 C7 x
noncomputable def iW(k:Nat)(x:(ax×Int)):Option Int:=aH E1 H1 k 87 yR x
noncomputable def nO(k:Nat)(x:((List Int)×Int)):Option Int:=aH E1 H1 k 88 Bz x
noncomputable def jr(k:Nat)(x:cQ):Option (List ByteArray):=aH E1 H1 k 91 zF x
noncomputable def me(k:Nat)(x:az):Option az:=aH E1 H1 k 92 ym x
noncomputable def mZ(k:Nat)(x:ax):Option ax:=aH E1 H1 k 93 xS x
noncomputable def oh(k:Nat)(x:(List Int)):Option (List Int):=aH E1 H1 k 94 BP x
noncomputable def s9(k:Nat)(x:fG):Option Bool:=aH E1 H1 k 97 BO x
noncomputable def oc(k:Nat)(x:((Option cQ)×Int)):Option Bool:=aH E1 H1 k 98 BB x
noncomputable def px(k:Nat)(x:((Option cQ)×Int)):Option Bool:=aH E1 H1 k 99 wT x
noncomputable def je(k:Nat)(x:((Option bx)×Int)):Option Bool:=aH E1 H1 k 100 oL x
noncomputable def kr(k:Nat)(x:cQ):Option (List ByteArray):=aH E1 H1 k 101 AS x
noncomputable def pg(k:Nat)(x:((List ar)×(List ar))):Option Bool:=aH E1 H1 k 102 wq x
noncomputable def ry(k:Nat)(x:((List bL)×(List bL))):Option Bool:=aH E1 H1 k 103 yf x
noncomputable def ml(k:Nat)(x:(az×az)):Option Bool:=aH E1 H1 k 104 zM x
noncomputable def mo(k:Nat)(x:(ax×ax)):Option Bool:=aH E1 H1 k 105 xW x
noncomputable def n8(k:Nat)(x:((List Int)×(List Int))):Option Bool:=aH E1 H1 k 106 AP x
noncomputable def fj(k:Nat)(x:((List av)×Int)):Option (Int×(List av)):=aH E1 H1 k 107 oI x
noncomputable def mJ(k:Nat)(x:((List ar)×Int)):Option (Int×(List ar)):=aH E1 H1 k 108 sD x
noncomputable def nJ(k:Nat)(x:((List bL)×Int)):Option (Int×(List bL)):=aH E1 H1 k 109 uM x
noncomputable def oS(k:Nat)(x:((List ar)×Int)):Option Int:=aH E1 H1 k 114 wR x
noncomputable def rC(k:Nat)(x:((List bL)×Int)):Option Int:=aH E1 H1 k 115 zw x
noncomputable def tv(k:Nat)(x:fG):Option Bool:=aH E1 H1 k 116 Bg x
noncomputable def qV(k:Nat)(x:(cQ×av)):Option Bool:=aH E1 H1 k 117 yY x
noncomputable def rA(k:Nat)(x:bx):Option (List Int):=aH E1 H1 k 118 yj x
noncomputable def ob(k:Nat)(x:((List Int)×Int)):Option Bool:=aH E1 H1 k 119 A3 x
noncomputable def jb(k:Nat)(x:(bF×Int)):Option ByteArray:=aH E1 H1 k 120 zh x
noncomputable def bg(k:Nat)(x:(ByteArray×az)):Option (Int×Bool):=aH E1 H1 k 121 uz x
noncomputable def vz(k:Nat)(x:(bF×(List ar))):Option Bool:=aH E1 H1 k 122 Ej x
noncomputable def fR(k:Nat)(x:(Int×(List ar))):Option ByteArray:=aH E1 H1 k 123 pC x
noncomputable def kJ(k:Nat)(x:(List ByteArray)):Option (cQ×Bool):=aH E1 H1 k 124 wo x
noncomputable def l5(k:Nat)(x:bF):Option (List ByteArray):=aH E1 H1 k 125 sP x
noncomputable def pj(k:Nat)(x:((List ByteArray)×(List ByteArray))):Option Bool:=aH E1 H1 k 126 wg x
noncomputable def jx(k:Nat)(x:(ax×ax)):Option Bool:=aH E1 H1 k 127 uw x
noncomputable def o6(k:Nat)(x:(List ar)):Option (List ar):=aH E1 H1 k 128 wm x
noncomputable def rq(k:Nat)(x:(List bL)):Option (List bL):=aH E1 H1 k 129 yr x
noncomputable def ey(k:Nat)(x:((Option bF)×Int)):Option ByteArray:=aH E1 H1 k 130 uu x
noncomputable def aU(k:Nat)(x:(ByteArray×az)):Option (Int×Bool):=aH E1 H1 k 131 uU x
noncomputable def dm(k:Nat)(x:(Int×(List ar))):Option ByteArray:=aH E1 H1 k 132 pE x
noncomputable def vP(k:Nat)(x:(bF×(List ar))):Option Bool:=aH E1 H1 k 133 D1 x
noncomputable def kO(k:Nat)(x:(List ByteArray)):Option (cQ×Bool):=aH E1 H1 k 134 wk x
noncomputable def cC(k:Nat)(x:((List az)×(List az))):Option Bool:=aH E1 H1 k 135 dZ x
noncomputable def jX(k:Nat)(x:(ax×ax)):Option Bool:=aH E1 H1 k 137 tW x
noncomputable def dW(k:Nat)(x:((List ByteArray)×(List ByteArray))):Option Bool:=aH E1 H1 k 138 gW x
noncomputable def mR(k:Nat)(x:ax):Option Bool:=aH E1 H1 k 139 zl x
noncomputable def rm(k:Nat)(x:cQ):Option ((List Bool)×Bool):=aH E1 H1 k 140 yO x
noncomputable def kW(k:Nat)(x:ByteArray):Option Bool:=aH E1 H1 k 141 xk x
noncomputable def o5(k:Nat)(x:(Int×(List ar))):Option (List DStep):=aH E1 H1 k 142 wN x
noncomputable def mu(k:Nat)(x:((List ByteArray)×(List ByteArray))):Option (List ar):=aH E1 H1 k 143 rL x
noncomputable def l9(k:Nat)(x:ax):Option Bool:=aH E1 H1 k 144 xV x
noncomputable def mC(k:Nat)(x:Int):Option Int:=aH E1 H1 k 145 rY x
noncomputable def kS(k:Nat)(x:ByteArray):Option Bool:=aH E1 H1 k 146 xh x
noncomputable def oU(k:Nat)(x:(Int×(List ar))):Option (List DStep):=aH E1 H1 k 147 wG x
noncomputable def mq(k:Nat)(x:((List ByteArray)×(List ByteArray))):Option (List ar):=aH E1 H1 k 148 rP x
noncomputable def js(k:Nat)(x:(ar×ar)):Option Bool:=aH E1 H1 k 149 yu x
noncomputable def gA(k:Nat)(x:((List av)×Int)):Option Int:=aH E1 H1 k 151 qf x
noncomputable def o3(k:Nat)(x:cQ):Option ByteArray:=aH E1 H1 k 155 xe x
noncomputable def kA(k:Nat)(x:dh):Option (List ByteArray):=aH E1 H1 k 156 BC x
noncomputable def cj(k:Nat)(x:ax):Option ByteArray:=aH E1 H1 k 157 uE x
noncomputable def gK(k:Nat)(x:(List av)):Option (List av):=aH E1 H1 k 158 qE x
noncomputable def e9(k:Nat)(x:((List Int)×Int)):Option Bool:=aH E1 H1 k 161 kj x
noncomputable def c7(k:Nat)(x:Int):Option Bool:=aH E1 H1 k 164 Bx x
noncomputable def oT(k:Nat)(x:(Option cQ)):Option ByteArray:=aH E1 H1 k 165 wJ x
noncomputable def ku(k:Nat)(x:dh):Option (List ByteArray):=aH E1 H1 k 166 AT x
noncomputable def eu(k:Nat)(x:ax):Option ByteArray:=aH E1 H1 k 167 uR x
noncomputable def nP(k:Nat)(x:(bL×bL)):Option Bool:=aH E1 H1 k 168 Bt x
noncomputable def gC(k:Nat)(x:((List av)×(List av))):Option Bool:=aH E1 H1 k 169 qp x
noncomputable def nc(k:Nat)(x:((List av)×Int)):Option (Int×(List av)):=aH E1 H1 k 170 ue x
noncomputable def jn(k:Nat)(x:(ar×Int)):Option Int:=aH E1 H1 k 175 zC x
noncomputable def kD(k:Nat)(x:(bL×Int)):Option Int:=aH E1 H1 k 176 BD x
noncomputable def cu(k:Nat)(x:Int):Option Bool:=aH E1 H1 k 177 xI x
noncomputable def pN(k:Nat)(x:(List ar)):Option Bool:=aH E1 H1 k 178 DZ x
noncomputable def aL(k:Nat)(x:az):Option ByteArray:=aH E1 H1 k 179 uL x
noncomputable def lS(k:Nat)(x:ByteArray):Option Int:=aH E1 H1 k 180 rU x
noncomputable def la(k:Nat)(x:ByteArray):Option (ax×Bool):=aH E1 H1 k 181 rB x
noncomputable def ri(k:Nat)(x:((List Int)×(List Int))):Option Bool:=aH E1 H1 k 182 zp x
noncomputable def mW(k:Nat)(x:((List av)×(List av))):Option Bool:=aH E1 H1 k 183 zn x
noncomputable def mz(k:Nat)(x:ar):Option ar:=aH E1 H1 k 184 yx x
noncomputable def nV(k:Nat)(x:bL):Option bL:=aH E1 H1 k 185 By x
noncomputable def nS(k:Nat)(x:(List ar)):Option Bool:=aH E1 H1 k 186 A6 x
noncomputable def aK(k:Nat)(x:az):Option ByteArray:=aH E1 H1 k 187 uC x
noncomputable def gv(k:Nat)(x:dh):Option ByteArray:=aH E1 H1 k 188 E4 x
noncomputable def l8(k:Nat)(x:ByteArray):Option Int:=aH E1 H1 k 189 sK x
noncomputable def lg(k:Nat)(x:ByteArray):Option (ax×Bool):=aH E1 H1 k 190 rz x
noncomputable def yh(k:Nat)(x:((List ByteArray)×ByteArray)):Option ByteArray:=aH E1 H1 k 191 Hk x
noncomputable def dT(k:Nat)(x:(List ByteArray)):Option (List ByteArray):=aH E1 H1 k 192 dV x
noncomputable def gE(k:Nat)(x:((List Int)×(List Int))):Option Bool:=aH E1 H1 k 193 mg x
noncomputable def bG(k:Nat)(x:((List av)×(List av))):Option Bool:=aH E1 H1 k 194 c8 x
noncomputable def ju(k:Nat)(x:Int):Option Bool:=aH E1 H1 k 195 zE x
noncomputable def di(k:Nat)(x:Int):Option Int:=aH E1 H1 k 196 pH x
noncomputable def mw(k:Nat)(x:(List av)):Option Bool:=aH E1 H1 k 197 C0 x
noncomputable def lV(k:Nat)(x:Int):Option Int:=aH E1 H1 k 198 sS x
noncomputable def jq(k:Nat)(x:(List ar)):Option (List ar):=aH E1 H1 k 199 oA x
noncomputable def o8(k:Nat)(x:Unit):Option (List DStep):=aH E1 H1 k 200 wI x
noncomputable def sW(k:Nat)(x:Int):Option Bool:=aH E1 H1 k 201 Bk x
noncomputable def fM(k:Nat)(x:Int):Option Int:=aH E1 H1 k 202 pA x
noncomputable def l4(k:Nat)(x:(List av)):Option Bool:=aH E1 H1 k 203 E2 x
noncomputable def iH(k:Nat)(x:(List ar)):Option (List DStep):=aH E1 H1 k 205 sA x
noncomputable def kn(k:Nat)(x:(List ar)):Option (List DStep):=aH E1 H1 k 206 pz x
noncomputable def dI(k:Nat)(x:(List av)):Option ByteArray:=aH E1 H1 k 211 yL x
noncomputable def iS(k:Nat)(x:av):Option av:=aH E1 H1 k 212 sw x
noncomputable def gF(k:Nat)(x:((List Int)×Int)):Option Int:=aH E1 H1 k 214 mV x
noncomputable def fT(k:Nat)(x:(List av)):Option ByteArray:=aH E1 H1 k 216 ye x
noncomputable def qZ(k:Nat)(x:((List av)×(List av))):Option Bool:=aH E1 H1 k 217 yy x
noncomputable def iR(k:Nat)(x:(av×av)):Option Bool:=aH E1 H1 k 218 rT x
noncomputable def qm(k:Nat)(x:((List av)×Int)):Option Int:=aH E1 H1 k 220 xZ x
noncomputable def c4(k:Nat)(x:ByteArray):Option ((List av)×Bool):=aH E1 H1 k 221 uQ x
noncomputable def rl(k:Nat)(x:(List av)):Option (List av):=aH E1 H1 k 222 yT x
noncomputable def uN(k:Nat)(x:dh):Option ByteArray:=aH E1 H1 k 223 nN x
noncomputable def eD(k:Nat)(x:ByteArray):Option ((List av)×Bool):=aH E1 H1 k 225 uv x
noncomputable def yZ(k:Nat)(x:((List ByteArray)×ByteArray)):Option ByteArray:=aH E1 H1 k 226 ql x
noncomputable def o7(k:Nat)(x:av):Option Bool:=aH E1 H1 k 227 wv x
noncomputable def vC(k:Nat)(x:(List Int)):Option Int:=aH E1 H1 k 228 Ed x
noncomputable def iO(k:Nat)(x:az):Option Int:=aH E1 H1 k 229 su x
noncomputable def nX(k:Nat)(x:(av×av)):Option Bool:=aH E1 H1 k 232 AX x
noncomputable def nR(k:Nat)(x:av):Option av:=aH E1 H1 k 233 Bj x
noncomputable def kK(k:Nat)(x:Int):Option Bool:=aH E1 H1 k 239 wh x
theorem lN(k:Nat)(x):dG (k+1) x=bE x:=by kernel_rfl
theorem lX(k:Nat)(x):dT (k+1) x=dD x:=by kernel_rfl
theorem zD(k:Nat)(x):uN (k+1) x=dA x:=by kernel_rfl
theorem Cj(k:Nat)(x):yZ (k+1) x=eJ x:=by kernel_rfl
end Go.Proofs.YtmmgfgfkkpeedaaGreat
