/- The tables, the residual functions and lemmas of this seat: parts of the proof of the law; conditions: those that each names. -/
import Derived.Test.YtmmgfgfkkpeedaaGreatMrk
set_option linter.unusedVariables false
set_option linter.unusedSimpArgs false
set_option maxRecDepth 100000
namespace Go.Proofs.YtmmgfgfkkpeedaaGreat
open Go.Eng
theorem heldInodeS_ev(l0:List DInode)(m0:Int)(h0:0≤m0)(h1:m0+((l0.map fun x=>7+(inB x).length+3*(inA x).length+3*(inD x).length).sum:Nat)<4611686018427387800)(hlen:l0.length<4611686018427387800):
  Ev (fun k=>c_laws_heldInodeS k ((markG mkInodeG l0 m0).1,m0)) (markG mkInodeG l0 m0).2:=by
 refine EvQ.run (fun k=>laws_heldInodeS_run k _ m0) ?_
 simp only[laws_heldInodeS]
 refine EvL.ev ?_
 have hml:=markG_length mkInodeG l0 m0
 refine heldG_ev (L:=laws_heldInodeS_l1) (fun m i=>((markG mkInodeG l0 m0).1,m,i)) mkInodeG (fun x=>7+(inB x).length+3*(inA x).length+3*(inD x).length) 4611686018427387800 l0 m0 h0 h1 (fun x _ m _ _=>mkInodeG_le x m) (fun i x m hx hm hB hi hget=> ?_) ?_
 ·have hlt:(i:Int)<((markG mkInodeG l0 m0).1.length:Int):=by rw[hml];omega
  have w1:wrapK .i64 (m+1)=m+1:=by rw[wrapK,wrap_i64 (by omega) (by omega)]
  have w2:wrapK .i64 (m+1+1)=m+2:=by rw[wrapK,wrap_i64 (by omega) (by omega)];omega
  have w3:wrapK .i64 (m+2+1)=m+3:=by rw[wrapK,wrap_i64 (by omega) (by omega)];omega
  have w4:wrapK .i64 (m+3+1)=m+4:=by rw[wrapK,wrap_i64 (by omega) (by omega)];omega
  have w5:wrapK .i64 (m+4+1)=m+5:=by rw[wrapK,wrap_i64 (by omega) (by omega)];omega
  have w6:wrapK .i64 (m+5+1)=m+6:=by rw[wrapK,wrap_i64 (by omega) (by omega)];omega
  have w7:wrapK .i64 (m+6+1)=m+7:=by rw[wrapK,wrap_i64 (by omega) (by omega)];omega
  have w8:wrapK .i64 ((i:Int)+1)=((i+1:Nat):Int):=by rw[wrapK,wrap_i64 (by omega) (by omega)];omega
  have hI:=heldIntS_ev (inB x) (m+7) (by omega) (by omega)
  have hA:=heldAclEntryS_ev (inA x) (m+7+1*(inB x).length) (by omega) (by omega)
  have hD:=heldAclEntryS_ev (inD x) (m+7+1*(inB x).length+3*(inA x).length) (by omega) (by omega)
  have n1:decide (m+7+1*((inB x).length:Int)<0)=false:=decide_eq_false (by omega)
  have n2:decide (m+7+1*((inB x).length:Int)+3*((inA x).length:Int)<0)=false:=decide_eq_false (by omega)
  have n3:decide (m+7+1*((inB x).length:Int)+3*((inA x).length:Int)+3*((inD x).length:Int)<0)=false:=decide_eq_false (by omega)
  simp only[EvS,laws_heldInodeS_l1,hlt,decide_true,cond_true,Int.natCast_nonneg,if_true,Int.toNat_natCast,hget,Option.bind_some,mkInodeG,bne_self_eq_false,cond_false,w1,w2,w3,w4,w5,w6,w7]
  refine EvQ.bindS hI ?_
  simp only[n1,cond_false]
  refine EvQ.bindS hA ?_
  simp only[n2,cond_false]
  refine EvQ.bindS hD ?_
  simp only[n3,cond_false,w8]
  exact EvQ.const _
 ·refine EvL.stop ?_
  have:¬(l0.length:Int)<((markG mkInodeG l0 m0).1.length:Int):=by rw[hml];omega
  simp only[laws_heldInodeS_l1,this,decide_false,cond_false]
  exact EvQ.const _
noncomputable def mq(x:DFS):List DQuota:=markF mkQuotaS 2 x.2.1 1
noncomputable def m1(x:DFS):Int:=1+2*x.2.1.length
noncomputable def mi(x:DFS):List DInode:=(markG mkInodeG x.2.2.1 (m1 x)).1
noncomputable def m2(x:DFS):Int:=(markG mkInodeG x.2.2.1 (m1 x)).2
noncomputable def mt(x:DFS):List ByteArray:=markF mkStringS 1 x.2.2.2 (m2 x)
noncomputable def m3(x:DFS):Int:=m2 x+1*x.2.2.2.length
theorem markParts(x:DFS)(hs:szM_FS x≤100000000):Ev (fun k=>c_laws_markQuotaS k (x.2.1,(1:Int))) (m1 x,mq x)∧Ev (fun k=>c_laws_markInodeS k (x.2.2.1,m1 x)) (m2 x,mi x)∧Ev (fun k=>c_laws_markStringS k (x.2.2.2,m2 x)) (m3 x,mt x)∧
  Ev (fun k=>c_laws_heldFS k ((x.1,mq x,mi x,mt x),(1:Int))) (m3 x)∧0≤m3 x:=by
 have e2:szM_FS x=x.2.1.length+szM_InodeS x.2.2.1+szM_StringS x.2.2.2:=rfl
 have e3:szM_InodeS x.2.2.1=x.2.2.1.length+(x.2.2.1.map szM_Inode).sum:=rfl
 have e4:szM_StringS x.2.2.2=x.2.2.2.length+(x.2.2.2.map fun y=>y.size).sum:=rfl
 have s1:=sum_inodes x.2.2.1
 have hm1:m1 x=1+2*x.2.1.length:=rfl
 have hQ:=markQuotaS_ev x.2.1 1 (by omega) (by omega)
 have hI:=markInodeS_ev x.2.2.1 (m1 x) (by omega) (by omega) (by omega)
 have bI:=markG_bound (e:=mkInodeG) (c:=fun x=>7+(inB x).length+3*(inA x).length+3*(inD x).length) (B:=4611686018427387800) (l:=x.2.2.1) (m:=m1 x) (by omega) (by omega) (fun x _ m _ _=>mkInodeG_le x m)
 have hm2:m2 x=(markG mkInodeG x.2.2.1 (m1 x)).2:=rfl
 have hm3:m3 x=m2 x+1*x.2.2.2.length:=rfl
 have hT:=markStringS_ev x.2.2.2 (m2 x) (by omega) (by omega)
 refine⟨hQ,hI,hT,EvQ.run (fun k=>laws_heldFS_run k _ _) ?_,by omega⟩
 have gQ:=heldQuotaS_ev x.2.1 1 (by omega) (by omega)
 have gI:=heldInodeS_ev x.2.2.1 (m1 x) (by omega) (by omega) (by omega)
 have gT:=heldStringS_ev x.2.2.2 (m2 x) (by omega) (by omega)
 have d1:decide ((1:Int)+2*(x.2.1.length:Int)<0)=false:=decide_eq_false (by omega)
 have d2:decide (m2 x<0)=false:=decide_eq_false (by omega)
 have d3:decide (m2 x+1*(x.2.2.2.length:Int)<0)=false:=decide_eq_false (by omega)
 simp only[laws_heldFS]
 refine EvQ.bind gQ ?_
 simp only[d1,cond_false]
 refine EvQ.bind gI ?_
 have d2':decide ((markG mkInodeG x.2.2.1 (m1 x)).2<0)=false:=d2
 simp only[d2',cond_false]
 refine EvQ.bind gT ?_
 simp only[d3,cond_false]
 exact EvQ.const _
end Go.Proofs.YtmmgfgfkkpeedaaGreat
