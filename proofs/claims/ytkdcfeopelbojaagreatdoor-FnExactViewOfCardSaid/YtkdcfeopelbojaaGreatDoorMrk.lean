/- The tables, the residual functions and lemmas of this seat: parts of the proof of the law; conditions: those that each names. -/
import Derived.Test.YtkdcfeopelbojaaGreatDoorSml
set_option linter.unusedVariables false
set_option linter.unusedSimpArgs false
set_option maxRecDepth 100000
namespace Go.Proofs.YtkdcfeopelbojaaGreatDoor
open Go.Eng
noncomputable def jr(x:aA)(m:Int):aA×Int:=
 ((m,m+1,m+2,m+3,m+4,m+5,m+6,fj Jz 1 (MC x) (m+7),fj mH 3 (N2 x) (m+7+1*(MC x).length),fj mH 3 (Pm x) (m+7+1*(MC x).length+3*(N2 x).length)),m+7+1*(MC x).length+3*(N2 x).length+3*(Pm x).length)
theorem Du:∀(x:aA) (m:Int),m≤(jr x m).2∧(jr x m).2≤m+((7+(MC x).length+3*(N2 x).length+3*(Pm x).length:Nat):Int):=fun x m=>by
 simp only[jr];omega
theorem Hb(l0:List aA)(m0:Int)(h0:0≤m0)(h1:m0+((l0.map fun x=>7+(MC x).length+3*(N2 x).length+3*(Pm x).length).sum:Nat)<4611686018427387800)(hlen:l0.length<4611686018427387800):
  Ev (fun k=>ld k (l0,m0)) ((ie jr l0 m0).2,(ie jr l0 m0).1):=by
 refine aw.run (fun k=>xC k l0 m0) ?_
 simp only[tD]
 refine cI.ev ?_
 refine Qy (L:=fT) jr (fun x=>7+(MC x).length+3*(N2 x).length+3*(Pm x).length) 4611686018427387800 l0 m0 (fun m l=>(m,l)) h0 h1 (fun x _ m _ _=>Du x m) (fun pre x post m hx hm hB hl=> ?_) (fun m l hl=> ?_)
 ·have w1:aa .i64 (m+1)=m+1:=by rw[aa,wrap_i64 (by omega) (by omega)]
  have w2:aa .i64 (m+1+1)=m+2:=by rw[aa,wrap_i64 (by omega) (by omega)];omega
  have w3:aa .i64 (m+2+1)=m+3:=by rw[aa,wrap_i64 (by omega) (by omega)];omega
  have w4:aa .i64 (m+3+1)=m+4:=by rw[aa,wrap_i64 (by omega) (by omega)];omega
  have w5:aa .i64 (m+4+1)=m+5:=by rw[aa,wrap_i64 (by omega) (by omega)];omega
  have w6:aa .i64 (m+5+1)=m+6:=by rw[aa,wrap_i64 (by omega) (by omega)];omega
  have w7:aa .i64 (m+6+1)=m+7:=by rw[aa,wrap_i64 (by omega) (by omega)];omega
  have w8:aa .i64 ((pre.length:Int)+1)=((pre.length+1:Nat):Int):=by rw[aa,wrap_i64 (by omega) (by omega)];omega
  have hI:=Dk (MC x) (m+7) (by omega) (by omega)
  have hA:=qF (N2 x) (m+7+1*(MC x).length) (by omega) (by omega)
  have hD:=qF (Pm x) (m+7+1*(MC x).length+3*(N2 x).length) (by omega) (by omega)
  simp only[rZ,fT,LU,decide_true,cond_true,Int.natCast_nonneg,if_true,Int.toNat_natCast,EK,EV,Option.bind_some,w1,w2,w3,w4,w5,w6,w7]
  refine aw.jt hI ?_
  simp only[LU,if_true,EK,EV,Option.bind_some]
  refine aw.jt hA ?_
  simp only[LU,if_true,EK,EV,Option.bind_some]
  refine aw.jt hD ?_
  simp only[EK,EV,Option.bind_some,w8,jr]
  exact aw.const _
 ·refine cI.stop ?_
  have:¬(l0.length:Int)<(l.length:Int):=by omega
  simp only[fT,this,decide_false,cond_false]
  exact aw.const _
end Go.Proofs.YtkdcfeopelbojaaGreatDoor
