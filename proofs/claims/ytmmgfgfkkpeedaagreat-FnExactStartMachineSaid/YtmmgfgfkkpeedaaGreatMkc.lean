/- The tables, the residual functions and lemmas of this seat: parts of the proof of the law; conditions: those that each names. -/
import Derived.Test.YtmmgfgfkkpeedaaGreatSml
set_option linter.unusedVariables false
set_option linter.unusedSimpArgs false
set_option maxRecDepth 100000
namespace Go.Proofs.YtmmgfgfkkpeedaaGreat
open Go.Eng
noncomputable def mkCredG(x:DCred)(m:Int):DCred×Int:=((m,m+1,markF mkIntS 1 x.2.2 (m+2)),m+2+1*x.2.2.length)
theorem mkCredG_le:∀(x:DCred) (m:Int),m≤(mkCredG x m).2∧(mkCredG x m).2≤m+((2+x.2.2.length:Nat):Int):=fun x m=>by
 simp only[mkCredG];omega
theorem markCredS_ev(l0:List DCred)(m0:Int)(h0:0≤m0)(h1:m0+((l0.map fun x=>2+x.2.2.length).sum:Nat)<4611686018427387800)(hlen:l0.length<4611686018427387800):
  Ev (fun k=>c_laws_markCredS k (l0,m0)) ((markG mkCredG l0 m0).2,(markG mkCredG l0 m0).1):=by
 refine EvQ.run (fun k=>laws_markCredS_run k l0 m0) ?_
 simp only[laws_markCredS]
 refine EvL.ev ?_
 refine markG_ev (L:=laws_markCredS_l1) mkCredG (fun x=>2+x.2.2.length) 4611686018427387800 l0 m0 (fun m l=>(m,l)) h0 h1 (fun x _ m _ _=>mkCredG_le x m) (fun pre x post m hx hm hB hl=> ?_) (fun m l hl=> ?_)
 ·have hlt:(pre.length:Int)<((pre++x::post).length:Int):=by rw[lt_mid];trivial
  have w1:wrapK .i64 (m+1)=m+1:=by rw[wrapK,wrap_i64 (by omega) (by omega)]
  have w2:wrapK .i64 (m+1+1)=m+2:=by rw[wrapK,wrap_i64 (by omega) (by omega)];omega
  have w3:wrapK .i64 ((pre.length:Int)+1)=((pre.length+1:Nat):Int):=by rw[wrapK,wrap_i64 (by omega) (by omega)];omega
  have hI:=markIntS_ev x.2.2 (m+2) (by omega) (by omega)
  simp only[EvS,laws_markCredS_l1,lt_mid,decide_true,cond_true,Int.natCast_nonneg,if_true,Int.toNat_natCast,get_mid,set_mid,Option.bind_some,w1,w2]
  refine EvQ.bindS hI ?_
  simp only[w3,mkCredG]
  exact EvQ.const _
 ·refine EvL.stop ?_
  have:¬(l0.length:Int)<(l.length:Int):=by omega
  simp only[laws_markCredS_l1,this,decide_false,cond_false]
  exact EvQ.const _
end Go.Proofs.YtmmgfgfkkpeedaaGreat
