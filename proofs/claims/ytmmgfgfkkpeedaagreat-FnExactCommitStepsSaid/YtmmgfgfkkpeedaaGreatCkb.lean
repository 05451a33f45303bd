/- The tables, the residual functions and lemmas of this seat: parts of the proof of the law; conditions: those that each names. -/
import Derived.Test.YtmmgfgfkkpeedaaGreatByt
import Derived.Test.YtmmgfgfkkpeedaaGreatDsk
set_option linter.unusedVariables false
set_option linter.unusedSimpArgs false
set_option maxRecDepth 100000
namespace Go.Proofs.YtmmgfgfkkpeedaaGreat
open Go.Eng
def xu(s:ByteArray):Nat→Nat×Nat
 |0=>(1,0)
 |i+1=>(((xu s i).1+bm s i) % 65521,((xu s i).2+((xu s i).1+bm s i) % 65521) % 65521)
theorem MM(s:ByteArray):∀i,(xu s i).1<65521∧(xu s i).2<65521
 |0=>by simp[xu]
 |i+1=>by simp only[xu];omega
def Tc(s:ByteArray):Nat:=(xu s s.size).2*65536+(xu s s.size).1
theorem Uu{x:Nat}:((x:Nat):Int).tmod 65521=((x % 65521:Nat):Int):=by
 rw[Int.tmod_eq_emod_of_nonneg (by omega)];omega
theorem F7(s:ByteArray)(hs:s.size≤1000000):Ev (fun k=>lS k s) (Tc s:Int):=by
 refine au.run (fun k=>AI k _) ?_
 simp only[wb]
 refine bS.ev ?_
 have:=bS.count (L:=gI) (r:=(Tc s:Int)) (fun i=>(s,((xu s i).1:Int),((xu s i).2:Int),(i:Int))) s.size (fun i hi=> ?_) (bS.stop ?_)
 ·simpa[xu]using this
 ·have hb:=eO s i
  obtain⟨q1,q2⟩:=MM s i
  have e1:aa .i64 (((xu s i).1:Int)+(bm s i:Int))=(((xu s i).1+bm s i:Nat):Int):=by rw[aR (by omega) (by omega)];omega
  have e2:aa .i64 (((xu s i).2:Int)+((((xu s i).1+bm s i) % 65521:Nat):Int))=(((xu s i).2+((xu s i).1+bm s i) % 65521:Nat):Int):=by rw[aR (by omega) (by omega)];omega
  simp only[m7,gI,Int.ofNat_lt,hi,decide_true,cond_true,Int.natCast_nonneg,if_true,Int.toNat_natCast,gS hi,Option.bind_some,CO (show bm s i<_ by omega),ne_eq,show ¬((65521:Int)=0)by decide,not_false_eq_true,e1,Uu,e2,iM (show i<_ by omega),xu]
  exact au.const _
 ·obtain⟨q1,q2⟩:=MM s s.size
  have e1:aa .i64 (((xu s s.size).2:Int)*65536)=((xu s s.size).2:Int)*65536:=aR (by omega) (by omega)
  have e2:aa .i64 (((xu s s.size).2:Int)*65536+((xu s s.size).1:Int))=(Tc s:Int):=by rw[aR (by omega) (by omega)];simp only[Tc];omega
  simp only[gI,Int.lt_irrefl,decide_false,cond_false,e1,e2]
  exact au.const _
theorem Ff(s:ByteArray)(hs:s.size≤1000000):Ev (fun k=>l8 k s) (Tc s:Int):=by
 refine au.run (fun k=>AG k _) ?_
 simp only[wF]
 refine bS.ev ?_
 have:=bS.count (L:=gG) (r:=(Tc s:Int)) (fun i=>(s,((xu s i).1:Int),((xu s i).2:Int),(s.size:Int),(i:Int))) s.size (fun i hi=> ?_) (bS.stop ?_)
 ·simpa[xu]using this
 ·have hb:=eO s i
  obtain⟨q1,q2⟩:=MM s i
  have e1:aa .i64 (((xu s i).1:Int)+(bm s i:Int))=(((xu s i).1+bm s i:Nat):Int):=by rw[aR (by omega) (by omega)];omega
  have e2:aa .i64 (((xu s i).2:Int)+((((xu s i).1+bm s i) % 65521:Nat):Int))=(((xu s i).2+((xu s i).1+bm s i) % 65521:Nat):Int):=by rw[aR (by omega) (by omega)];omega
  simp only[m7,gG,Int.ofNat_lt,hi,decide_true,cond_true,Int.natCast_nonneg,if_true,Int.toNat_natCast,gS hi,Option.bind_some,CO (show bm s i<_ by omega),ne_eq,show ¬((65521:Int)=0)by decide,not_false_eq_true,e1,Uu,e2,iM (show i<_ by omega),xu]
  exact au.const _
 ·obtain⟨q1,q2⟩:=MM s s.size
  have e1:aa .i64 (((xu s s.size).2:Int)*65536)=((xu s s.size).2:Int)*65536:=aR (by omega) (by omega)
  have e2:aa .i64 (((xu s s.size).2:Int)*65536+((xu s s.size).1:Int))=(Tc s:Int):=by rw[aR (by omega) (by omega)];simp only[Tc];omega
  simp only[gG,Int.lt_irrefl,decide_false,cond_false,e1,e2]
  exact au.const _
end Go.Proofs.YtmmgfgfkkpeedaaGreat
