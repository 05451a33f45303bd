/- The tables, the residual functions and lemmas of this seat: parts of the proof of the law; conditions: those that each names. -/
import Derived.Test.YtmmgfgfkkpeedaaGreatSml
set_option linter.unusedVariables false
set_option linter.unusedSimpArgs false
set_option maxRecDepth 100000
namespace Go.Proofs.YtmmgfgfkkpeedaaGreat
open Go.Eng
noncomputable def mkInodeG(x:DInode)(m:Int):DInode×Int:=
 ((m,m+1,m+2,m+3,m+4,m+5,m+6,markF mkIntS 1 (inB x) (m+7),markF mkAclEntryS 3 (inA x) (m+7+1*(inB x).length),markF mkAclEntryS 3 (inD x) (m+7+1*(inB x).length+3*(inA x).length)),m+7+1*(inB x).length+3*(inA x).length+3*(inD x).length)
theorem mkInodeG_le:∀(x:DInode) (m:Int),m≤(mkInodeG x m).2∧(mkInodeG x m).2≤m+((7+(inB x).length+3*(inA x).length+3*(inD x).length:Nat):Int):=fun x m=>by
 simp only[mkInodeG];omega
theorem markInodeS_ev(l0:List DInode)(m0:Int)(h0:0≤m0)(h1:m0+((l0.map fun x=>7+(inB x).length+3*(inA x).length+3*(inD x).length).sum:Nat)<4611686018427387800)(hlen:l0.length<4611686018427387800):
  Ev (fun k=>c_laws_markInodeS k (l0,m0)) ((markG mkInodeG l0 m0).2,(markG mkInodeG l0 m0).1):=by
 refine EvQ.run (fun k=>laws_markInodeS_run k l0 m0) ?_
 simp only[laws_markInodeS]
 refine EvL.ev ?_
 refine markG_ev (L:=laws_markInodeS_l1) mkInodeG (fun x=>7+(inB x).length+3*(inA x).length+3*(inD x).length) 4611686018427387800 l0 m0 (fun m l=>(m,l)) h0 h1 (fun x _ m _ _=>mkInodeG_le x m) (fun pre x post m hx hm hB hl=> ?_) (fun m l hl=> ?_)
 ·have w1:wrapK .i64 (m+1)=m+1:=by rw[wrapK,wrap_i64 (by omega) (by omega)]
  have w2:wrapK .i64 (m+1+1)=m+2:=by rw[wrapK,wrap_i64 (by omega) (by omega)];omega
  have w3:wrapK .i64 (m+2+1)=m+3:=by rw[wrapK,wrap_i64 (by omega) (by omega)];omega
  have w4:wrapK .i64 (m+3+1)=m+4:=by rw[wrapK,wrap_i64 (by omega) (by omega)];omega
  have w5:wrapK .i64 (m+4+1)=m+5:=by rw[wrapK,wrap_i64 (by omega) (by omega)];omega
  have w6:wrapK .i64 (m+5+1)=m+6:=by rw[wrapK,wrap_i64 (by omega) (by omega)];omega
  have w7:wrapK .i64 (m+6+1)=m+7:=by rw[wrapK,wrap_i64 (by omega) (by omega)];omega
  have w8:wrapK .i64 ((pre.length:Int)+1)=((pre.length+1:Nat):Int):=by rw[wrapK,wrap_i64 (by omega) (by omega)];omega
  have hI:=markIntS_ev (inB x) (m+7) (by omega) (by omega)
  have hA:=markAclEntryS_ev (inA x) (m+7+1*(inB x).length) (by omega) (by omega)
  have hD:=markAclEntryS_ev (inD x) (m+7+1*(inB x).length+3*(inA x).length) (by omega) (by omega)
  simp only[EvS,laws_markInodeS_l1,lt_mid,decide_true,cond_true,Int.natCast_nonneg,if_true,Int.toNat_natCast,get_mid,set_mid,Option.bind_some,w1,w2,w3,w4,w5,w6,w7]
  refine EvQ.bindS hI ?_
  simp only[lt_mid,if_true,get_mid,set_mid,Option.bind_some]
  refine EvQ.bindS hA ?_
  simp only[lt_mid,if_true,get_mid,set_mid,Option.bind_some]
  refine EvQ.bindS hD ?_
  simp only[get_mid,set_mid,Option.bind_some,w8,mkInodeG]
  exact EvQ.const _
 ·refine EvL.stop ?_
  have:¬(l0.length:Int)<(l.length:Int):=by omega
  simp only[laws_markInodeS_l1,this,decide_false,cond_false]
  exact EvQ.const _
end Go.Proofs.YtmmgfgfkkpeedaaGreat
