/- The tables, the residual functions and lemmas of this seat: parts of the proof of the law; conditions: those that each names. -/
import Derived.Test.YtmmgfgfkkpeedaaGreatByt
set_option linter.unusedVariables false
set_option linter.unusedSimpArgs false
set_option maxRecDepth 100000
namespace Go.Proofs.YtmmgfgfkkpeedaaGreat
open Go.Eng
def numB(s:ByteArray)(a:Nat):Nat→Nat
 |0=>0
 |j+1=>numB s a j*256+byteN s (a+j)
theorem numB_lt(s:ByteArray)(a:Nat):∀j,numB s a j<256 ^ j
 |0=>by simp[numB]
 |j+1=>by
  have h1:=numB_lt s a j
  have h2:=byteN_lt s (a+j)
  rw[numB,Nat.pow_succ];omega
theorem numB_small(s:ByteArray)(a:Nat){j w:Nat}(h:j<w)(hw:w≤6):numB s a j<1099511627776:=by
 have h1:=numB_lt s a j
 have h2:256 ^ j≤256 ^ 5:=Nat.pow_le_pow_right (by omega) (by omega)
 have h3:256 ^ 5=1099511627776:=rfl
 omega
def getR(s:ByteArray)(a w:Nat):Int×Bool:=if a+w≤s.size then((numB s a w:Int),true)else(0,false)
theorem impl_Get_ev(s:ByteArray)(a w:Nat)(h1:1≤w)(h6:w≤6)(ha:a≤1000000)(hs:s.size≤10000000):Ev (fun k=>c_impl_GetNumber k (s,(a:Int),(w:Int))) (getR s a w):=by
 refine EvQ.run (fun k=>impl_GetNumber_run k _ _ _) ?_
 have a1:¬(w:Int)<1:=by omega
 have a1':¬(6:Int)<w:=by omega
 have a2:¬(a:Int)<0:=by omega
 have a3:wrapK .i64 ((s.size:Int)-w)=(s.size:Int)-w:=i64w (by omega) (by omega)
 simp only[impl_GetNumber,a1,a1',a2,a3,cond_false,decide_false]
 by_cases h:a+w≤s.size
 case neg=>
  have a4:(s.size:Int)-w<a:=by omega
  simp only[a4,decide_true,cond_true]
  rw[getR,if_neg h];exact EvQ.const _
 case pos=>
  have a4:¬(s.size:Int)-w<a:=by omega
  simp only[a4,decide_false,cond_false]
  rw[getR,if_pos h]
  refine Ev.eq ?_
  refine EvX.upto (L:=fun k _=>impl_GetNumber_l1 k) w (fun(_:Unit) j=>(s,(a:Int),(numB s a j:Int),(w:Int),(j:Int))) (fun _ _=>True) (fun _ j hj _=> ?_) (fun _ _=> ?_) () 0 (Nat.zero_le _) trivial
  ·have c1:(j:Int)<w:=by omega
   have e0:(2:Int)^(min (8:Int).toNat (IntKind.bits .i64))=256:=rfl
   have w0:wrapK .i64 ((a:Int)+j)=((a+j:Nat):Int):=by rw[i64w (by omega) (by omega)];omega
   have w1:wrapK .i64 ((j:Int)+1)=((j+1:Nat):Int):=by rw[i64w (by omega) (by omega)];omega
   have hb:=byteN_lt s (a+j)
   have hn:=numB_small s a hj h6
   have hm:wrapK .i64 ((numB s a j:Int)*256)=((numB s a j*256:Nat):Int):=by rw[i64w (by omega) (by omega)];omega
   have ho:intBits .or .i64 ((numB s a j*256:Nat):Int) (byteN s (a+j):Int)=(numB s a (j+1):Int):=by
    rw[or_256 _ _ (by omega) hb];rfl
   simp only[impl_GetNumber_l1,c1,decide_true,cond_true,if_pos (show(0:Int)≤8 by omega),w0,Int.natCast_nonneg,if_true,Int.toNat_natCast,byte_at (show a+j<s.size by omega),Option.bind_some,e0,hm,wnat (show byteN s (a+j)<_ by omega),ho,w1]
   exact EvX.const _ (GL.self () rfl trivial)
  ·simp only[impl_GetNumber_l1,Int.lt_irrefl,decide_false,cond_false]
   exact EvX.const _ (GE.ret (GR.ret rfl))
theorem spec_Get_ev(s:ByteArray)(a w:Nat)(h1:1≤w)(h6:w≤6)(ha:a≤1000000)(hs:s.size≤10000000):Ev (fun k=>c_spec_GetNumber k (s,(a:Int),(w:Int))) (getR s a w):=by
 refine EvQ.run (fun k=>spec_GetNumber_run k _ _ _) ?_
 have a2:¬(a:Int)<0:=by omega
 have a3:wrapK .i64 ((s.size:Int)-w)=(s.size:Int)-w:=i64w (by omega) (by omega)
 simp only[spec_GetNumber]
 refine EvQ.bind (l01In_ev w 1 6) ?_
 simp only[show(1:Int)≤w∧(w:Int)≤6 by omega,and_self,decide_true,Bool.not_true,a2,a3,cond_false,decide_false]
 by_cases h:a+w≤s.size
 case neg=>
  have a4:(s.size:Int)-w<a:=by omega
  simp only[a4,decide_true,cond_true]
  rw[getR,if_neg h];exact EvQ.const _
 case pos=>
  have a4:¬(s.size:Int)-w<a:=by omega
  simp only[a4,decide_false,cond_false]
  rw[getR,if_pos h]
  refine Ev.eq ?_
  refine EvX.upto (L:=fun k _=>spec_GetNumber_l1 k) w (fun(_:Unit) j=>(s,(a:Int),(w:Int),(numB s a j:Int),(j:Int))) (fun _ _=>True) (fun _ j hj _=> ?_) (fun _ _=> ?_) () 0 (Nat.zero_le _) trivial
  ·have c1:(j:Int)<w:=by omega
   have w0:wrapK .i64 ((a:Int)+j)=((a+j:Nat):Int):=by rw[i64w (by omega) (by omega)];omega
   have w1:wrapK .i64 ((j:Int)+1)=((j+1:Nat):Int):=by rw[i64w (by omega) (by omega)];omega
   have hb:=byteN_lt s (a+j)
   have hn:=numB_small s a hj h6
   have hm:wrapK .i64 ((256:Int)*(numB s a j:Int))=((numB s a j*256:Nat):Int):=by rw[i64w (by omega) (by omega)];omega
   have ho:wrapK .i64 (((numB s a j*256:Nat):Int)+(byteN s (a+j):Int))=(numB s a (j+1):Int):=by
    rw[i64w (by omega) (by omega),numB];omega
   simp only[spec_GetNumber_l1,c1,decide_true,cond_true,w0,Int.natCast_nonneg,if_true,Int.toNat_natCast,byte_at (show a+j<s.size by omega),Option.bind_some,hm,wnat (show byteN s (a+j)<_ by omega),ho,w1]
   exact EvX.const _ (GL.self () rfl trivial)
  ·simp only[spec_GetNumber_l1,Int.lt_irrefl,decide_false,cond_false]
   exact EvX.const _ (GE.ret (GR.ret rfl))
end Go.Proofs.YtmmgfgfkkpeedaaGreat
