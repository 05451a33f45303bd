/- The tables, the residual functions and lemmas of this seat: parts of the proof of the law; conditions: those that each names. -/
import Derived.Test.YtkmnlefjlhogaaaMkf
set_option linter.unusedVariables false
set_option linter.unusedSimpArgs false
set_option maxRecDepth 100000
namespace Go.Proofs.Ytkmnlefjlhogaaa
open Go.Eng
theorem next_iff{q:Int}{U:List Int}{u:Int}:((nextV q U u).2==7)=decide (q≤(inT U (u*14) 14:Int)):=by
 unfold nextV
 split
 ·rename_i h;simp[h]
 ·rename_i h
  split<;>simp[h]
theorem nxt_iff{f:PFS}{u q:Int}{r:Int×Int}(h:NxtI f u q r):(r.2==7)=decide (q≤(cntN f u 5:Int)):=by
 rcases h with⟨h1,h2⟩|⟨h1,h2⟩
 ·rw[h2];simp[h1]
 ·rcases h2 with⟨n,h3,_⟩|h3
  ·rw[h3];simp[h1]
  ·rw[h3];simp[h1]
theorem root_cnt{f:PFS}(hP:fsP f):0<cntN f 0 5:=by
 have key:∀i,0<cntN f 0 (i+1):=by
  intro i
  induction i with
  |zero=>
   obtain⟨n,h1,h2⟩:=hP.root
   simp only[cntN]
   rw[show(fI f)[((0:Int)*5).toNat+0]? =some n from h1]
   simp[h2]
  |succ i ih=>
   rw[cntN]
   split
   ·rename_i n _
    cases n.1 != 0
    ·exact ih
    ·exact Nat.succ_pos _
   ·exact ih
 exact key 4
theorem laws_FnPools_ev(x0:List Int)(hx0:okD (.list false (.int .u8)) x0):Ev (fun k=>c_laws_FnPools k x0) true:=by
 refine EvQ.run (fun k=>laws_FnPools_run k x0) ?_
 simp only[laws_FnPools]
 by_cases c0:(1048576:Int)<(x0.length:Int)
 ·simp only[c0,decide_true,cond_true];exact EvQ.const _
 simp only[c0,decide_false,cond_false]
 have hx:x0.length≤1048576:=by omega
 obtain⟨f,e0,hP⟩:=makeFS_ev x0 hx
 refine EvQ.bind e0 ?_
 have e1:Ev (fun k=>c_impl_IsFS k f) true:=by
  obtain⟨b,h1,h2⟩:=impl_IsFS_say f (fs_small hP)
  rw[h2.2 hP]at h1;exact h1
 refine Ev.eq ?_
 refine EvX.upto (L:=fun k (_:Unit)=>laws_FnPools_l1 k) 4 (fun(_:Unit) i=>((),((i:Nat):Int),f)) (fun _ _=>True) (fun st i hi _=> ?_) (fun st _=> ?_) () 0 (by omega) trivial
 ·have hu:0≤(i:Int)∧(i:Int)≤3:=by omega
  have hnq:=hP.nq
  obtain⟨q,hq⟩:∃q,(fQ f)[i]? =some q:=⟨_,List.getElem?_eq_getElem (by omega)⟩
  have hq':(fQ f)[((i:Nat):Int).toNat]? =some q:=hq
  have c1:(i:Int)<4:=by omega
  simp only[laws_FnPools_l1,c1,decide_true,cond_true]
  obtain⟨r,n1,n2⟩:=nextInode_ev hP hu e1 hq'
  refine EvX.bind n1 ?_
  refine EvX.bind (nextBlock_ev hP hu e1 hq') ?_
  obtain⟨v,hv⟩:∃v,v=nextV q.2 (usedBs (fI f)) (i:Int):=⟨_,rfl⟩
  have hnx:=next_ok (u:=(i:Int)) (b:=v.1) (c:=v.2) hv.symm
  have hv7:=next_iff (q:=q.2) (U:=usedBs (fI f)) (u:=(i:Int))
  rw[←hv]at hv7 ⊢
  refine EvX.joinT ((),(i:Int),r.2,v.1,v.2,f) True ?_ fun _=> ?_
  ·refine EvX.bif (fun h=> ?_) fun _=>EvX.const _ (GT.inl trivial)
   have h:r.2=0:=by simpa using h
   obtain⟨n,h1,h2,h3,h4⟩:∃n,(i:Int)*5≤r.1∧r.1<(i:Int)*5+5∧(fI f)[r.1.toNat]? =some n∧n.1=0:=by
    rcases n2 with⟨_,e⟩|⟨_,⟨n,_,h1⟩|e⟩
    ·rw[e]at h;cases h
    ·exact⟨n,h1⟩
    ·rw[e]at h;cases h
   have hl:f.2.2.1.length=20:=hP.ni
   have a1:¬r.1<0:=by omega
   have a2:¬((f.2.2.1.length:Nat):Int)≤r.1:=by rw[hl];omega
   have a3:wrapK .i64 (r.1.tdiv 5)=(i:Int):=by
    have:r.1.tdiv 5=(i:Int):=by rw[Int.tdiv_eq_ediv_of_nonneg (by omega)];omega
    rw[this];exact i64w (by omega) (by omega)
   have a4:0≤r.1:=by omega
   have a5:r.1<((f.2.2.1.length:Nat):Int):=by rw[hl];omega
   simp only[a1,a2,a3,a4,a5,decide_false,cond_false,bne_self_eq_false,if_true,show((5:Int)≠0)=True by simp,show f.2.2.1[r.1.toNat]? =some n from h3,Option.bind_some,h4]
   exact EvX.const _ (GT.inl trivial)
  ·refine EvX.joinT ((),(i:Int),r.2,v.2,f) True ?_ fun _=> ?_
   ·refine EvX.bif (fun h=> ?_) fun _=>EvX.const _ (GT.inl trivial)
    have h:v.2=0:=by simpa using h
    obtain⟨h1,h2,h3⟩:(i:Int)*14≤v.1∧v.1<(i:Int)*14+14∧v.1∉usedBs (fI f):=by
     rcases hnx with⟨_,h1⟩|e|e
     ·exact h1
     ·omega
     ·omega
    have hl:f.2.2.2.length=56:=hP.nd
    have a1:¬v.1<0:=by omega
    have a2:¬((f.2.2.2.length:Nat):Int)≤v.1:=by rw[hl];omega
    have a4:0≤v.1:=by omega
    have a5:v.1<((f.2.2.2.length:Nat):Int):=by rw[hl];omega
    obtain⟨s,hs⟩:∃s,f.2.2.2[v.1.toNat]? =some s:=⟨_,List.getElem?_eq_getElem (by rw[hl];omega)⟩
    simp only[a1,a2,decide_false,cond_false]
    refine EvX.bind (impl_BlockOwner_ev v.1) ?_
    have ho:ownI v.1=(i:Int):=by unfold ownI;rw[if_pos (by omega)];omega
    rw[ho]
    simp only[bne_self_eq_false,cond_false,a4,a5,if_true,hs,Option.bind_some]
    obtain⟨b,z1,z2⟩:=impl_IsZeroes_say s (by rw[hP.sz _ s hs];unfold big;omega)
    rw[z2.2 (hP.free v.1.toNat s hs (by rw[show((v.1.toNat:Nat):Int)=v.1 by omega];exact h3))]at z1
    refine EvX.bind z1 ?_
    simp only[Bool.not_true,cond_false]
    exact EvX.const _ (GT.inl trivial)
   ·refine EvX.bind (inodes_ev hP hu e1) ?_
    have hl:f.2.1.length=4:=hnq
    have a5:(i:Int)<((f.2.1.length:Nat):Int):=by rw[hl];omega
    simp only[Int.natCast_nonneg,a5,if_true,Int.toNat_natCast,show f.2.1[i]? =some q from hq,Option.bind_some,nxt_iff n2,bne_self_eq_false,cond_false]
    refine EvX.bind (blocks_ev hP hu e1) ?_
    simp only[hv7,bne_self_eq_false,cond_false]
    refine EvX.bind (pool_ev hP hu e1) ?_
    refine EvX.bind (inodes_ev hP hu e1) ?_
    simp only[pool_cnt,bne_self_eq_false,cond_false,wS i (by omega)]
    exact EvX.const _ (GL.self () rfl trivial)
 ·simp only[laws_FnPools_l1,show ¬((4:Nat):Int)<4 by omega,decide_false,cond_false]
  refine EvX.bind e1 ?_
  simp only[cond_true]
  refine EvX.bind (inodes_ev hP (u:=0) (by omega) e1) ?_
  have:=root_cnt hP
  rw[show decide ((0:Int)<(cntN f 0 5:Int))=true from decide_eq_true (by omega)]
  exact EvX.const _ (GE.ret (GR.ret rfl))
end Go.Proofs.Ytkmnlefjlhogaaa
