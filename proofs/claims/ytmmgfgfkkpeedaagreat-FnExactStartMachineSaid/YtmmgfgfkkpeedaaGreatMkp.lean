/- The tables, the residual functions and lemmas of this seat: parts of the proof of the law; conditions: those that each names. -/
import Derived.Test.YtmmgfgfkkpeedaaGreatHld
set_option linter.unusedVariables false
set_option linter.unusedSimpArgs false
set_option maxRecDepth 100000
namespace Go.Proofs.YtmmgfgfkkpeedaaGreat
open Go.Eng
noncomputable def mkProcG(x:DProc)(m:Int):DProc×Int:=
 (((m,m+1,markF mkIntS 1 x.1.2.2 (m+2)),markF mkOpenS 3 x.2 (m+2+1*x.1.2.2.length)),m+2+1*x.1.2.2.length+3*x.2.length)
theorem mkProcG_le:∀(x:DProc) (m:Int),m≤(mkProcG x m).2∧(mkProcG x m).2≤m+((2+x.1.2.2.length+3*x.2.length:Nat):Int):=fun x m=>by
 simp only[mkProcG];omega
theorem markProcS_ev(l0:List DProc)(m0:Int)(h0:0≤m0)(h1:m0+((l0.map fun x=>2+x.1.2.2.length+3*x.2.length).sum:Nat)<4611686018427387800)(hlen:l0.length<4611686018427387800):
  Ev (fun k=>c_laws_markProcS k (l0,m0)) ((markG mkProcG l0 m0).2,(markG mkProcG l0 m0).1):=by
 refine EvQ.run (fun k=>laws_markProcS_run k l0 m0) ?_
 simp only[laws_markProcS]
 refine EvL.ev ?_
 refine markG_ev (L:=laws_markProcS_l1) mkProcG (fun x=>2+x.1.2.2.length+3*x.2.length) 4611686018427387800 l0 m0 (fun m l=>(m,l)) h0 h1 (fun x _ m _ _=>mkProcG_le x m) (fun pre x post m hx hm hB hl=> ?_) (fun m l hl=> ?_)
 ·have w1:wrapK .i64 (m+1)=m+1:=by rw[wrapK,wrap_i64 (by omega) (by omega)]
  have w2:wrapK .i64 (m+1+1)=m+2:=by rw[wrapK,wrap_i64 (by omega) (by omega)];omega
  have w3:wrapK .i64 ((pre.length:Int)+1)=((pre.length+1:Nat):Int):=by rw[wrapK,wrap_i64 (by omega) (by omega)];omega
  have hI:=markIntS_ev x.1.2.2 (m+2) (by omega) (by omega)
  have hO:=markOpenS_ev x.2 (m+2+1*x.1.2.2.length) (by omega) (by omega)
  simp only[EvS,laws_markProcS_l1,lt_mid,decide_true,cond_true,Int.natCast_nonneg,if_true,Int.toNat_natCast,get_mid,set_mid,Option.bind_some,w1,w2]
  refine EvQ.bindS hI ?_
  simp only[lt_mid,if_true,get_mid,set_mid,Option.bind_some]
  refine EvQ.bindS hO ?_
  simp only[set_mid,w3,mkProcG]
  exact EvQ.const _
 ·refine EvL.stop ?_
  have:¬(l0.length:Int)<(l.length:Int):=by omega
  simp only[laws_markProcS_l1,this,decide_false,cond_false]
  exact EvQ.const _
theorem heldProcS_ev(l0:List DProc)(m0:Int)(h0:0≤m0)(h1:m0+((l0.map fun x=>2+x.1.2.2.length+3*x.2.length).sum:Nat)<4611686018427387800)(hlen:l0.length<4611686018427387800):
  Ev (fun k=>c_laws_heldProcS k ((markG mkProcG l0 m0).1,m0)) (markG mkProcG l0 m0).2:=by
 refine EvQ.run (fun k=>laws_heldProcS_run k _ m0) ?_
 simp only[laws_heldProcS]
 refine EvL.ev ?_
 have hml:=markG_length mkProcG l0 m0
 refine heldG_ev (L:=laws_heldProcS_l1) (fun m i=>((markG mkProcG l0 m0).1,m,i)) mkProcG (fun x=>2+x.1.2.2.length+3*x.2.length) 4611686018427387800 l0 m0 h0 h1 (fun x _ m _ _=>mkProcG_le x m) (fun i x m hx hm hB hi hget=> ?_) ?_
 ·have hlt:(i:Int)<((markG mkProcG l0 m0).1.length:Int):=by rw[hml];omega
  have w1:wrapK .i64 (m+1)=m+1:=by rw[wrapK,wrap_i64 (by omega) (by omega)]
  have w2:wrapK .i64 (m+1+1)=m+2:=by rw[wrapK,wrap_i64 (by omega) (by omega)];omega
  have w3:wrapK .i64 ((i:Int)+1)=((i+1:Nat):Int):=by rw[wrapK,wrap_i64 (by omega) (by omega)];omega
  have hH:=heldIntS_ev x.1.2.2 (m+2) (by omega) (by omega)
  have hO:=heldOpenS_ev x.2 (m+2+1*x.1.2.2.length) (by omega) (by omega)
  have hn:decide (m+2+1*(x.1.2.2.length:Int)<0)=false:=decide_eq_false (by omega)
  have hn2:decide (m+2+1*(x.1.2.2.length:Int)+3*(x.2.length:Int)<0)=false:=decide_eq_false (by omega)
  simp only[EvS,laws_heldProcS_l1,hlt,decide_true,cond_true,Int.natCast_nonneg,if_true,Int.toNat_natCast,hget,Option.bind_some,mkProcG,bne_self_eq_false,cond_false,w1,w2]
  refine EvQ.bindS hH ?_
  simp only[hn,cond_false]
  refine EvQ.bindS hO ?_
  simp only[hn2,cond_false,w3]
  exact EvQ.const _
 ·refine EvL.stop ?_
  have:¬(l0.length:Int)<((markG mkProcG l0 m0).1.length:Int):=by rw[hml];omega
  simp only[laws_heldProcS_l1,this,decide_false,cond_false]
  exact EvQ.const _
end Go.Proofs.YtmmgfgfkkpeedaaGreat
