/- The tables, the residual functions and lemmas of this seat: parts of the proof of the law; conditions: those that each names. -/
import Derived.Test.YtmmgfgfkkpeedaaGreatDoorArc
set_option linter.unusedVariables false
set_option linter.unusedSimpArgs false
set_option maxRecDepth 100000
namespace Go.Proofs.YtmmgfgfkkpeedaaGreatDoor
open Go.Eng
theorem get_mid{α:Type}(pre:List α)(x:α)(post:List α):(pre++x::post)[pre.length]? =some x:=by simp
theorem set_mid{α:Type}(pre:List α)(x y:α)(post:List α):(pre++x::post).set pre.length y=pre++y::post:=by simp
theorem lt_mid{α:Type}(pre:List α)(x:α)(post:List α):((pre.length:Int)<((pre++x::post).length:Int))=True:=by
 simp only[List.length_append,List.length_cons,eq_iff_iff,iff_true];omega
noncomputable def mkItG(x:PItem)(m:Int):PItem×Int:=
 ((m.tmod 3==0,mtext (m+1),m+2,markF mkAclEntryS 3 x.2.2.2.1 (m+3),mtext (m+3+3*x.2.2.2.1.length)),m+3+3*x.2.2.2.1.length+1)
abbrev itC(x:PItem):Nat:=4+3*x.2.2.2.1.length
theorem mkItG_le:∀(x:PItem) (m:Int),m≤(mkItG x m).2∧(mkItG x m).2≤m+(itC x:Int):=fun x m=>by
 simp only[mkItG,itC];omega
theorem three_ne:(3:Int)≠0:=by decide
theorem markItems_ev(l0:List PItem)(m0:Int)(h0:0≤m0)(h1:m0+((l0.map itC).sum:Nat)<4611686018427387800)(hlen:l0.length<4611686018427387800):
  Ev (fun k=>c_laws_markArchiveItemS k (l0,m0)) ((markG mkItG l0 m0).2,(markG mkItG l0 m0).1):=by
 refine EvQ.run (fun k=>laws_markArchiveItemS_run k l0 m0) ?_
 simp only[laws_markArchiveItemS]
 refine EvL.ev ?_
 refine markG_ev (L:=laws_markArchiveItemS_l1) mkItG itC 4611686018427387800 l0 m0 (fun m l=>(m,l)) h0 h1 (fun x _ m _ _=>mkItG_le x m) (fun pre x post m hx hm hB hl=> ?_) (fun m l hl=> ?_)
 ·simp only[itC]at hB
  have w1:wrapK .i64 (m+1)=m+1:=by rw[wrapK,wrap_i64 (by omega) (by omega)]
  have w2:wrapK .i64 (m+1+1)=m+2:=by rw[wrapK,wrap_i64 (by omega) (by omega)];omega
  have w3:wrapK .i64 (m+2+1)=m+3:=by rw[wrapK,wrap_i64 (by omega) (by omega)];omega
  have w4:wrapK .i64 (m+3+3*(x.2.2.2.1.length:Int)+1)=m+3+3*(x.2.2.2.1.length:Int)+1:=by rw[wrapK,wrap_i64 (by omega) (by omega)]
  have w8:wrapK .i64 ((pre.length:Int)+1)=((pre.length+1:Nat):Int):=by rw[wrapK,wrap_i64 (by omega) (by omega)];omega
  have hA:=markAclEntryS_ev x.2.2.2.1 (m+3) (by omega) (by omega)
  have hT:=markText_ev (m+1) (by omega) (by omega)
  have hU:=markText_ev (m+3+3*x.2.2.2.1.length) (by omega) (by omega)
  simp only[EvS,laws_markArchiveItemS_l1,lt_mid,decide_true,cond_true,Int.natCast_nonneg,if_true,Int.toNat_natCast,get_mid,set_mid,Option.bind_some,if_pos three_ne,w1,w2,w3]
  refine EvQ.bindS hT ?_
  try simp only[lt_mid,if_true,get_mid,set_mid,Option.bind_some]
  refine EvQ.bindS hA ?_
  try simp only[lt_mid,if_true,get_mid,set_mid,Option.bind_some]
  refine EvQ.bindS hU ?_
  simp only[lt_mid,if_true,get_mid,set_mid,Option.bind_some,w4,w8,mkItG]
  exact EvQ.const _
 ·refine EvL.stop ?_
  have:¬(l0.length:Int)<(l.length:Int):=by omega
  simp only[laws_markArchiveItemS_l1,this,decide_false,cond_false]
  exact EvQ.const _
theorem heldItems_ev(l0:List PItem)(m0:Int)(h0:0≤m0)(h1:m0+((l0.map itC).sum:Nat)<4611686018427387800)(hlen:l0.length<4611686018427387800):
  Ev (fun k=>c_laws_heldArchiveItemS k ((markG mkItG l0 m0).1,m0)) (markG mkItG l0 m0).2:=by
 refine EvQ.run (fun k=>laws_heldArchiveItemS_run k _ m0) ?_
 simp only[laws_heldArchiveItemS]
 refine EvL.ev ?_
 have hml:=markG_length mkItG l0 m0
 refine heldG_ev (L:=laws_heldArchiveItemS_l1) (fun m i=>((markG mkItG l0 m0).1,m,i)) mkItG itC 4611686018427387800 l0 m0 h0 h1 (fun x _ m _ _=>mkItG_le x m) (fun i x m hx hm hB hi hget=> ?_) ?_
 ·simp only[itC]at hB
  have hlt:(i:Int)<((markG mkItG l0 m0).1.length:Int):=by rw[hml];omega
  have w1:wrapK .i64 (m+1)=m+1:=by rw[wrapK,wrap_i64 (by omega) (by omega)]
  have w2:wrapK .i64 (m+1+1)=m+2:=by rw[wrapK,wrap_i64 (by omega) (by omega)];omega
  have w3:wrapK .i64 (m+2+1)=m+3:=by rw[wrapK,wrap_i64 (by omega) (by omega)];omega
  have w4:wrapK .i64 (m+3+3*(x.2.2.2.1.length:Int)+1)=m+3+3*(x.2.2.2.1.length:Int)+1:=by rw[wrapK,wrap_i64 (by omega) (by omega)]
  have w8:wrapK .i64 ((i:Int)+1)=((i+1:Nat):Int):=by rw[wrapK,wrap_i64 (by omega) (by omega)];omega
  have hA:=heldAclEntryS_ev x.2.2.2.1 (m+3) (by omega) (by omega)
  have hT:=markText_ev (m+1) (by omega) (by omega)
  have hU:=markText_ev (m+3+3*x.2.2.2.1.length) (by omega) (by omega)
  have n1:decide (m+3+3*(x.2.2.2.1.length:Int)<0)=false:=decide_eq_false (by omega)
  simp only[EvS,laws_heldArchiveItemS_l1,hlt,decide_true,cond_true,Int.natCast_nonneg,if_true,Int.toNat_natCast,hget,Option.bind_some,mkItG,bne_self_eq_false,cond_false,if_pos three_ne,w1,w2,w3]
  refine EvQ.bindS hT ?_
  simp only[eqS_refl,Bool.not_true,cond_false]
  refine EvQ.bindS hA ?_
  simp only[n1,cond_false]
  refine EvQ.bindS hU ?_
  simp only[eqS_refl,Bool.not_true,cond_false,w4,w8]
  exact EvQ.const _
 ·refine EvL.stop ?_
  have:¬(l0.length:Int)<((markG mkItG l0 m0).1.length:Int):=by rw[hml];omega
  simp only[laws_heldArchiveItemS_l1,this,decide_false,cond_false]
  exact EvQ.const _
theorem itC_sum:∀l:List PItem,(l.map itC).sum≤4*l.length+3*(l.map szM_ArchiveItem).sum
 |[]=>by simp
 |x::l=>by
  have:=itC_sum l
  have h:szM_ArchiveItem x=x.2.1.size+x.2.2.2.1.length+x.2.2.2.2.size:=rfl
  simp only[List.map_cons,List.sum_cons,List.length_cons,h,itC]at this ⊢
  omega
theorem laws_FnExactReadArchive_ev(x0:ByteArray)(hx0:okD .str x0):Ev (fun k=>c_laws_FnExactReadArchive k x0) true:=by
 refine EvQ.run (fun k=>laws_FnExactReadArchive_run k x0) ?_
 simp only[laws_FnExactReadArchive]
 by_cases h:(1048576:Int)<(x0.size:Int)
 ·simp only[h,decide_true,cond_true];exact EvQ.const _
 simp only[h,decide_false,cond_false]
 have hs:=ra_sizes x0 (by omega)
 have e:szM_ArchiveItemS (raV x0).1=(raV x0).1.length+((raV x0).1.map szM_ArchiveItem).sum:=rfl
 have hc:=itC_sum (raV x0).1
 have hS:=spec_Arc_ev x0 (by omega)
 have hI:=impl_Arc_ev x0 (by omega)
 have hE:=eqArchiveItemS_ev (raV x0).1 (by omega)
 have hM:=markItems_ev (raV x0).1 1 (by omega) (by omega) (by omega)
 have hH:=heldItems_ev (raV x0).1 1 (by omega) (by omega) (by omega)
 have hb:=markG_bound (e:=mkItG) (c:=itC) (B:=4611686018427387800) (l:=(raV x0).1) (m:=1) (by omega) (by omega) (fun x _ m _ _=>mkItG_le x m)
 have n1:decide ((markG mkItG (raV x0).1 1).2<0)=false:=decide_eq_false (by omega)
 refine EvQ.bind hS (EvQ.bind hI (EvQ.bind hE ?_))
 simp only[Bool.not_true,cond_false,bne_self_eq_false]
 refine EvQ.bind hM (EvQ.bind hH ?_)
 simp only[n1,cond_false,bne_self_eq_false]
 refine EvQ.bind hI (EvQ.bind hE ?_)
 simp only[Bool.not_true,cond_false,bne_self_eq_false]
 refine EvQ.bind hH ?_
 simp only[n1,cond_false,bne_self_eq_false]
 exact EvQ.const _
end Go.Proofs.YtmmgfgfkkpeedaaGreatDoor
