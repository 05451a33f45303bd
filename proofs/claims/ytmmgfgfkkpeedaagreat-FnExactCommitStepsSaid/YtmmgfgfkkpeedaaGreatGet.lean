/- The tables, the residual functions and lemmas of this seat: parts of the proof of the law; conditions: those that each names. -/
import Derived.Test.YtmmgfgfkkpeedaaGreatByt
set_option linter.unusedVariables false
set_option linter.unusedSimpArgs false
set_option maxRecDepth 100000
namespace Go.Proofs.YtmmgfgfkkpeedaaGreat
open Go.Eng
def br(s:ByteArray)(a:Nat):Nat→Nat
 |0=>0
 |j+1=>br s a j*256+bm s (a+j)
theorem IS(s:ByteArray)(a:Nat):∀j,br s a j<256 ^ j
 |0=>by simp[br]
 |j+1=>by
  have h1:=IS s a j
  have h2:=eO s (a+j)
  rw[br,Nat.pow_succ];omega
theorem JH(s:ByteArray)(a:Nat){j w:Nat}(h:j<w)(hw:w≤6):br s a j<1099511627776:=by
 have h1:=IS s a j
 have h2:256 ^ j≤256 ^ 5:=Nat.pow_le_pow_right (by omega) (by omega)
 have h3:256 ^ 5=1099511627776:=rfl
 omega
def bq(s:ByteArray)(a w:Nat):Int×Bool:=if a+w≤s.size then((br s a w:Int),true)else(0,false)
theorem zq(s:ByteArray)(a w:Nat)(h1:1≤w)(h6:w≤6)(ha:a≤1000000)(hs:s.size≤10000000):Ev (fun k=>aU k (s,(a:Int),(w:Int))) (bq s a w):=by
 refine au.run (fun k=>CP k _ _ _) ?_
 have a1:¬(w:Int)<1:=by omega
 have a1':¬(6:Int)<w:=by omega
 have a2:¬(a:Int)<0:=by omega
 have a3:aa .i64 ((s.size:Int)-w)=(s.size:Int)-w:=aR (by omega) (by omega)
 simp only[yk,a1,a1',a2,a3,cond_false,decide_false]
 by_cases h:a+w≤s.size
 case neg=>
  have a4:(s.size:Int)-w<a:=by omega
  simp only[a4,decide_true,cond_true]
  rw[bq,if_neg h];exact au.const _
 case pos=>
  have a4:¬(s.size:Int)-w<a:=by omega
  simp only[a4,decide_false,cond_false]
  rw[bq,if_pos h]
  refine Ev.eq ?_
  refine aj.upto (L:=fun k _=>iJ k) w (fun(_:Unit) j=>(s,(a:Int),(br s a j:Int),(w:Int),(j:Int))) (fun _ _=>True) (fun _ j hj _=> ?_) (fun _ _=> ?_) () 0 (Nat.zero_le _) trivial
  ·have c1:(j:Int)<w:=by omega
   have e0:(2:Int)^(min (8:Int).toNat (IntKind.bits .i64))=256:=rfl
   have w0:aa .i64 ((a:Int)+j)=((a+j:Nat):Int):=by rw[aR (by omega) (by omega)];omega
   have w1:aa .i64 ((j:Int)+1)=((j+1:Nat):Int):=by rw[aR (by omega) (by omega)];omega
   have hb:=eO s (a+j)
   have hn:=JH s a hj h6
   have hm:aa .i64 ((br s a j:Int)*256)=((br s a j*256:Nat):Int):=by rw[aR (by omega) (by omega)];omega
   have ho:intBits .or .i64 ((br s a j*256:Nat):Int) (bm s (a+j):Int)=(br s a (j+1):Int):=by
    rw[Wx _ _ (by omega) hb];rfl
   simp only[iJ,c1,decide_true,cond_true,if_pos (show(0:Int)≤8 by omega),w0,Int.natCast_nonneg,if_true,Int.toNat_natCast,gS (show a+j<s.size by omega),Option.bind_some,e0,hm,CO (show bm s (a+j)<_ by omega),ho,w1]
   exact aj.const _ (GL.self () rfl trivial)
  ·simp only[iJ,Int.lt_irrefl,decide_false,cond_false]
   exact aj.const _ (GE.ret (GR.ret rfl))
theorem yc(s:ByteArray)(a w:Nat)(h1:1≤w)(h6:w≤6)(ha:a≤1000000)(hs:s.size≤10000000):Ev (fun k=>bg k (s,(a:Int),(w:Int))) (bq s a w):=by
 refine au.run (fun k=>Cs k _ _ _) ?_
 have a2:¬(a:Int)<0:=by omega
 have a3:aa .i64 ((s.size:Int)-w)=(s.size:Int)-w:=aR (by omega) (by omega)
 simp only[zv]
 refine au.bind (bH w 1 6) ?_
 simp only[show(1:Int)≤w∧(w:Int)≤6 by omega,and_self,decide_true,Bool.not_true,a2,a3,cond_false,decide_false]
 by_cases h:a+w≤s.size
 case neg=>
  have a4:(s.size:Int)-w<a:=by omega
  simp only[a4,decide_true,cond_true]
  rw[bq,if_neg h];exact au.const _
 case pos=>
  have a4:¬(s.size:Int)-w<a:=by omega
  simp only[a4,decide_false,cond_false]
  rw[bq,if_pos h]
  refine Ev.eq ?_
  refine aj.upto (L:=fun k _=>iB k) w (fun(_:Unit) j=>(s,(a:Int),(w:Int),(br s a j:Int),(j:Int))) (fun _ _=>True) (fun _ j hj _=> ?_) (fun _ _=> ?_) () 0 (Nat.zero_le _) trivial
  ·have c1:(j:Int)<w:=by omega
   have w0:aa .i64 ((a:Int)+j)=((a+j:Nat):Int):=by rw[aR (by omega) (by omega)];omega
   have w1:aa .i64 ((j:Int)+1)=((j+1:Nat):Int):=by rw[aR (by omega) (by omega)];omega
   have hb:=eO s (a+j)
   have hn:=JH s a hj h6
   have hm:aa .i64 ((256:Int)*(br s a j:Int))=((br s a j*256:Nat):Int):=by rw[aR (by omega) (by omega)];omega
   have ho:aa .i64 (((br s a j*256:Nat):Int)+(bm s (a+j):Int))=(br s a (j+1):Int):=by
    rw[aR (by omega) (by omega),br];omega
   simp only[iB,c1,decide_true,cond_true,w0,Int.natCast_nonneg,if_true,Int.toNat_natCast,gS (show a+j<s.size by omega),Option.bind_some,hm,CO (show bm s (a+j)<_ by omega),ho,w1]
   exact aj.const _ (GL.self () rfl trivial)
  ·simp only[iB,Int.lt_irrefl,decide_false,cond_false]
   exact aj.const _ (GE.ret (GR.ret rfl))
end Go.Proofs.YtmmgfgfkkpeedaaGreat
