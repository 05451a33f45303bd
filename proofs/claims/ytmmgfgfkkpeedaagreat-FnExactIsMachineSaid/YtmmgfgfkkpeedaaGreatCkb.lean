/- The tables, the residual functions and lemmas of this seat: parts of the proof of the law; conditions: those that each names. -/
import Derived.Test.YtmmgfgfkkpeedaaGreatByt
import Derived.Test.YtmmgfgfkkpeedaaGreatDsk
set_option linter.unusedVariables false
set_option linter.unusedSimpArgs false
set_option maxRecDepth 100000
namespace Go.Proofs.YtmmgfgfkkpeedaaGreat
open Go.Eng
def ckT(s:ByteArray):Nat→Nat×Nat
 |0=>(1,0)
 |i+1=>(((ckT s i).1+byteN s i) % 65521,((ckT s i).2+((ckT s i).1+byteN s i) % 65521) % 65521)
theorem ckT_lt(s:ByteArray):∀i,(ckT s i).1<65521∧(ckT s i).2<65521
 |0=>by simp[ckT]
 |i+1=>by simp only[ckT];omega
def ckB(s:ByteArray):Nat:=(ckT s s.size).2*65536+(ckT s s.size).1
theorem ck_mod{x:Nat}:((x:Nat):Int).tmod 65521=((x % 65521:Nat):Int):=by
 rw[Int.tmod_eq_emod_of_nonneg (by omega)];omega
theorem spec_Checksum_ev(s:ByteArray)(hs:s.size≤1000000):Ev (fun k=>c_spec_ChecksumOf k s) (ckB s:Int):=by
 refine EvQ.run (fun k=>spec_ChecksumOf_run k _) ?_
 simp only[spec_ChecksumOf]
 refine EvL.ev ?_
 have:=EvL.count (L:=spec_ChecksumOf_l1) (r:=(ckB s:Int)) (fun i=>(s,((ckT s i).1:Int),((ckT s i).2:Int),(i:Int))) s.size (fun i hi=> ?_) (EvL.stop ?_)
 ·simpa[ckT]using this
 ·have hb:=byteN_lt s i
  obtain⟨q1,q2⟩:=ckT_lt s i
  have e1:wrapK .i64 (((ckT s i).1:Int)+(byteN s i:Int))=(((ckT s i).1+byteN s i:Nat):Int):=by rw[i64w (by omega) (by omega)];omega
  have e2:wrapK .i64 (((ckT s i).2:Int)+((((ckT s i).1+byteN s i) % 65521:Nat):Int))=(((ckT s i).2+((ckT s i).1+byteN s i) % 65521:Nat):Int):=by rw[i64w (by omega) (by omega)];omega
  simp only[EvS,spec_ChecksumOf_l1,Int.ofNat_lt,hi,decide_true,cond_true,Int.natCast_nonneg,if_true,Int.toNat_natCast,byte_at hi,Option.bind_some,wnat (show byteN s i<_ by omega),ne_eq,show ¬((65521:Int)=0)by decide,not_false_eq_true,e1,ck_mod,e2,wsucc (show i<_ by omega),ckT]
  exact EvQ.const _
 ·obtain⟨q1,q2⟩:=ckT_lt s s.size
  have e1:wrapK .i64 (((ckT s s.size).2:Int)*65536)=((ckT s s.size).2:Int)*65536:=i64w (by omega) (by omega)
  have e2:wrapK .i64 (((ckT s s.size).2:Int)*65536+((ckT s s.size).1:Int))=(ckB s:Int):=by rw[i64w (by omega) (by omega)];simp only[ckB];omega
  simp only[spec_ChecksumOf_l1,Int.lt_irrefl,decide_false,cond_false,e1,e2]
  exact EvQ.const _
theorem impl_Checksum_ev(s:ByteArray)(hs:s.size≤1000000):Ev (fun k=>c_impl_ChecksumOf k s) (ckB s:Int):=by
 refine EvQ.run (fun k=>impl_ChecksumOf_run k _) ?_
 simp only[impl_ChecksumOf]
 refine EvL.ev ?_
 have:=EvL.count (L:=impl_ChecksumOf_l1) (r:=(ckB s:Int)) (fun i=>(s,((ckT s i).1:Int),((ckT s i).2:Int),(s.size:Int),(i:Int))) s.size (fun i hi=> ?_) (EvL.stop ?_)
 ·simpa[ckT]using this
 ·have hb:=byteN_lt s i
  obtain⟨q1,q2⟩:=ckT_lt s i
  have e1:wrapK .i64 (((ckT s i).1:Int)+(byteN s i:Int))=(((ckT s i).1+byteN s i:Nat):Int):=by rw[i64w (by omega) (by omega)];omega
  have e2:wrapK .i64 (((ckT s i).2:Int)+((((ckT s i).1+byteN s i) % 65521:Nat):Int))=(((ckT s i).2+((ckT s i).1+byteN s i) % 65521:Nat):Int):=by rw[i64w (by omega) (by omega)];omega
  simp only[EvS,impl_ChecksumOf_l1,Int.ofNat_lt,hi,decide_true,cond_true,Int.natCast_nonneg,if_true,Int.toNat_natCast,byte_at hi,Option.bind_some,wnat (show byteN s i<_ by omega),ne_eq,show ¬((65521:Int)=0)by decide,not_false_eq_true,e1,ck_mod,e2,wsucc (show i<_ by omega),ckT]
  exact EvQ.const _
 ·obtain⟨q1,q2⟩:=ckT_lt s s.size
  have e1:wrapK .i64 (((ckT s s.size).2:Int)*65536)=((ckT s s.size).2:Int)*65536:=i64w (by omega) (by omega)
  have e2:wrapK .i64 (((ckT s s.size).2:Int)*65536+((ckT s s.size).1:Int))=(ckB s:Int):=by rw[i64w (by omega) (by omega)];simp only[ckB];omega
  simp only[impl_ChecksumOf_l1,Int.lt_irrefl,decide_false,cond_false,e1,e2]
  exact EvQ.const _
end Go.Proofs.YtmmgfgfkkpeedaaGreat
