/- The tables, the residual functions and lemmas of this seat: parts of the proof of the law; conditions: those that each names. -/
import Derived.Test.YtmmgfgfkkpeedaaGreatSml
set_option linter.unusedVariables false
set_option linter.unusedSimpArgs false
set_option maxRecDepth 100000
namespace Go.Proofs.YtmmgfgfkkpeedaaGreat
open Go.Eng
noncomputable def kz(x:ax)(m:Int):ax×Int:=
 ((m,m+1,m+2,m+3,m+4,m+5,m+6,ep Jm 1 (PO x) (m+7),ep oK 3 (R9 x) (m+7+1*(PO x).length),ep oK 3 (To x) (m+7+1*(PO x).length+3*(R9 x).length)),m+7+1*(PO x).length+3*(R9 x).length+3*(To x).length)
theorem G1:∀(x:ax) (m:Int),m≤(kz x m).2∧(kz x m).2≤m+((7+(PO x).length+3*(R9 x).length+3*(To x).length:Nat):Int):=fun x m=>by
 simp only[kz];omega
theorem Ls(l0:List ax)(m0:Int)(h0:0≤m0)(h1:m0+((l0.map fun x=>7+(PO x).length+3*(R9 x).length+3*(To x).length).sum:Nat)<4611686018427387800)(hlen:l0.length<4611686018427387800):
  Ev (fun k=>mF k (l0,m0)) ((gi kz l0 m0).2,(gi kz l0 m0).1):=by
 refine au.run (fun k=>Au k l0 m0) ?_
 simp only[wX]
 refine bS.ev ?_
 refine OE (L:=gx) kz (fun x=>7+(PO x).length+3*(R9 x).length+3*(To x).length) 4611686018427387800 l0 m0 (fun m l=>(m,l)) h0 h1 (fun x _ m _ _=>G1 x m) (fun pre x post m hx hm hB hl=> ?_) (fun m l hl=> ?_)
 ·have w1:aa .i64 (m+1)=m+1:=by rw[aa,wrap_i64 (by omega) (by omega)]
  have w2:aa .i64 (m+1+1)=m+2:=by rw[aa,wrap_i64 (by omega) (by omega)];omega
  have w3:aa .i64 (m+2+1)=m+3:=by rw[aa,wrap_i64 (by omega) (by omega)];omega
  have w4:aa .i64 (m+3+1)=m+4:=by rw[aa,wrap_i64 (by omega) (by omega)];omega
  have w5:aa .i64 (m+4+1)=m+5:=by rw[aa,wrap_i64 (by omega) (by omega)];omega
  have w6:aa .i64 (m+5+1)=m+6:=by rw[aa,wrap_i64 (by omega) (by omega)];omega
  have w7:aa .i64 (m+6+1)=m+7:=by rw[aa,wrap_i64 (by omega) (by omega)];omega
  have w8:aa .i64 ((pre.length:Int)+1)=((pre.length+1:Nat):Int):=by rw[aa,wrap_i64 (by omega) (by omega)];omega
  have hI:=Hz (PO x) (m+7) (by omega) (by omega)
  have hA:=u5 (R9 x) (m+7+1*(PO x).length) (by omega) (by omega)
  have hD:=u5 (To x) (m+7+1*(PO x).length+3*(R9 x).length) (by omega) (by omega)
  simp only[m7,gx,I2,decide_true,cond_true,Int.natCast_nonneg,if_true,Int.toNat_natCast,z8,vH,Option.bind_some,w1,w2,w3,w4,w5,w6,w7]
  refine au.bD hI ?_
  simp only[I2,if_true,z8,vH,Option.bind_some]
  refine au.bD hA ?_
  simp only[I2,if_true,z8,vH,Option.bind_some]
  refine au.bD hD ?_
  simp only[z8,vH,Option.bind_some,w8,kz]
  exact au.const _
 ·refine bS.stop ?_
  have:¬(l0.length:Int)<(l.length:Int):=by omega
  simp only[gx,this,decide_false,cond_false]
  exact au.const _
end Go.Proofs.YtmmgfgfkkpeedaaGreat
