/- The tables, the residual functions and lemmas of this seat: parts of the proof of the law; conditions: those that each names. -/
import Derived.Test.YtkmnlefjlhogaaaBlk
set_option linter.unusedVariables false
set_option linter.unusedSimpArgs false
set_option maxRecDepth 100000
namespace Go.Proofs.Ytkmnlefjlhogaaa
open Go.Eng
open Classical in
noncomputable def firstF(U:List Int):Nat→Int→Option Int
 |0,_=>none
 |m+1,b=>if b∈U then firstF U m (b+1)else some b
noncomputable def nextV(q:Int)(U:List Int)(u:Int):Int×Int:=
 if q≤(inT U (u*14) 14:Int)then(0,7)else match firstF U 14 (u*14)with
  |some b=>(b,0)
  |none=>(0,8)
section
variable {f:PFS} {u:Int}
theorem spec_used_w(hP:wfs f):∃r,Ev (fun k=>c_spec_l08Used k f) (r,true)∧usedA r (usedBs (fI f)):=by
 have hni:=hP.ni
 have:∃x:List Bool×Bool,Ev (fun k=>c_spec_l08Used k f) x∧(x.2=true∧usedA x.1 (usedBs (fI f))):=by
  refine Ev.of (Q:=fun x:List Bool×Bool=>x.2=true∧usedA x.1 (usedBs (fI f))) ?_ |>.imp fun n h=>⟨EvQ.run (fun k=>spec_l08Used_run k f) h.1,h.2⟩
  have c1:(0:Int)≤56:=by omega
  have c2:(56:Int)≤56:=by omega
  have c3:(56:Int)*1≤(capBytes:Int):=by unfold capBytes;omega
  simp only[spec_l08Used,c1,c2,c3,if_true]
  refine EvX.list (L:=fun k _=>spec_l08Used_l2 k) (fI f) (fun(st:List Bool) i=>(st,fI f,((fI f).length:Int),((i:Nat):Int))) (fun st i=>usedA st (usedBs ((fI f).take i))) (fun st i n hx hi inv=> ?_) (fun st inv=> ?_) _ usedA_nil
  ·simp only[spec_l08Used_l2,Int.ofNat_lt,hi,decide_true,cond_true,Int.natCast_nonneg,if_true,Int.toNat_natCast,hx,Option.bind_some]
   have hbl:=hP.len i n hx
   refine EvX.list (L:=fun k (p:Unit×(_→Option (List Bool×Bool)))=>spec_l08Used_l1 k p.2) (xBlk n) (fun(st:List Bool) j=>(st,(),fI f,((fI f).length:Int),(i:Int),xBlk n,((xBlk n).length:Int),(j:Int),n)) (fun st j=>usedA st (pre (fI f) i n j)) (fun st j b hb hj inv=> ?_) (fun st inv=> ?_) st (by rw[pre_zero];exact inv)
   ·simp only[spec_l08Used_l1,Int.ofNat_lt,hj,decide_true,cond_true,Int.natCast_nonneg,if_true,Int.toNat_natCast,hb,Option.bind_some,wS j]
    refine EvX.bif (fun h1=> ?_) (fun h1=> ?_)
    ·have h1:b= -1:=by simpa using h1
     subst h1
     refine EvX.const _ (GL.self _ rfl ?_)
     rw[pre_skip hb];exact inv
    ·have h1':b≠ -1:=by simpa using h1
     have hown:=hP.own i n hx j b hb h1'
     have hu0:0≤xUid n:=by have:=hown.2.2;have:=hown.1;omega
     have hoi:=(own_iff hu0).2 hown
     refine EvX.bind (spec_BlockOwner_ev b) ?_
     have hne:(ownI b != n.2.2.1)=false:=by rw[hoi];simp
     have b0:=hown.1
     have b1:=hown.2.1
     have b2:b<((st.length:Nat):Int):=by rw[inv.1];omega
     have hf:=used_fresh hP.nodup hx hb h1'
     simp only[hne,cond_false,b0,b2,if_true,usedA_get inv b0 b1,Option.bind_some,hf,decide_false]
     refine EvX.const _ (GL.self _ rfl ?_)
     rw[pre_succ hb h1'];exact usedA_set inv b0
   ·simp only[spec_l08Used_l1,Int.lt_irrefl,decide_false,cond_false,wS i]
    refine EvX.const _ (GE.up (S:=Unit×(_→Option (List Bool×Bool))) (fun p=>p.2 (st,fI f,((fI f).length:Int),((i+1:Nat):Int))) ?_)
    refine GL.self st rfl ?_
    rw[used_take hx];exact inv
  ·simp only[spec_l08Used_l2,Int.lt_irrefl,decide_false,cond_false]
   refine EvX.const _ (GE.ret (GR.ret ⟨rfl, ?_⟩))
   rw[List.take_length]at inv;exact inv
 obtain⟨x,h1,h2,h3⟩:=this
 obtain⟨r,b⟩:=x
 simp only at h2 h3
 subst h2
 exact⟨r,h1,h3⟩
theorem first_get{U:List Int}{r:List Bool}(hr:usedA r U):∀(m:Nat) (b:Int),0≤b→b+m≤56→∀(R:Int×Int) (L:Nat→(Int×List Bool×Int→Option (Int×Int))→Int×List Bool×Int→Option (Int×Int)),
  (∀k self (c:Int) x,0≤c→c<u*14+14→c<56→r[c.toNat]? =some x→L k self (u,r,c)=bif !x then some (c,0)else self (u,r,c+1))→
  (∀k self,L k self (u,r,u*14+14)=some (0,8))→b+m=u*14+14→(R=match firstF U m b with|some c=>(c,0)|none=>(0,8))→EvL L (u,r,b) R
 |0,b,h0,h1,R,L,hs,he,hb,hR=>by
  have:b=u*14+14:=by omega
  subst this
  subst hR
  refine EvL.stop ⟨0,fun k _=>funext fun self=> ?_⟩
  show L k self (u,r,u*14+14)=_
  rw[he];rfl
 |m+1,b,h0,h1,R,L,hs,he,hb,hR=>by
  classical
  have hg:=usedA_get hr h0 (by omega:b<56)
  simp only[firstF]at hR
  by_cases hm:b∈U
  ·rw[if_pos hm]at hR
   refine EvL.step (d':=(u,r,b+1)) ⟨0,fun k _=>funext fun self=> ?_⟩ (first_get hr m (b+1) (by omega) (by omega) R L hs he (by omega) hR)
   show L k self (u,r,b)=_
   rw[hs k self b _ h0 (by omega) (by omega) hg]
   simp[hm]
  ·rw[if_neg hm]at hR
   subst hR
   refine EvL.stop ⟨0,fun k _=>funext fun self=> ?_⟩
   show L k self (u,r,b)=_
   rw[hs k self b _ h0 (by omega) (by omega) hg]
   simp[hm]
theorem spec_next_ev(hP:wfs f)(h0:0≤u)(h3:u≤3){q:PQuota}(hq:(fQ f)[u.toNat]? =some q):Ev (fun k=>c_spec_l08NextBlock k (f,u)) (nextV q.2 (usedBs (fI f)) u):=by
 refine EvQ.run (fun k=>spec_l08NextBlock_run k _ _) ?_
 obtain⟨r,h1,h2⟩:=spec_used_w hP
 have hq':f.2.1[u.toNat]? =some q:=hq
 simp only[spec_l08NextBlock]
 refine EvQ.bind (spec_Blocks_ev hP h0 h3) ?_
 simp only[h0,if_true,hq',Option.bind_some]
 by_cases hc:q.2≤(inT (usedBs (fI f)) (u*14) 14:Int)
 ·simp only[hc,decide_true,cond_true,nextV,if_true];exact EvQ.const _
 ·simp only[hc,decide_false,cond_false,nextV,if_false]
  refine EvQ.bind h1 ?_
  have w:wrapK .i64 (u*14)=u*14:=i64w (by omega) (by omega)
  have hrl:=h2.1
  simp only[w]
  have w1:wrapK .i64 (u+1)=u+1:=i64w (by omega) (by omega)
  have w2:wrapK .i64 ((u+1)*14)=u*14+14:=by rw[i64w (by omega) (by omega)];omega
  refine EvL.ev (first_get h2 14 (u*14) (by omega) (by omega) _ _ (fun k self c x c0 c1 c2 hx=> ?_) (fun k self=> ?_) (by omega) (by cases firstF (usedBs (fI f)) 14 (u*14)<;>rfl))
  ·have c3:c<(r.length:Int):=by omega
   have c4:wrapK .i64 (c+1)=c+1:=i64w (by omega) (by omega)
   simp only[spec_l08NextBlock_l1,w1,w2,c1,c0,c3,decide_true,cond_true,if_true,hx,Option.bind_some,c4]
  ·simp only[spec_l08NextBlock_l1,w1,w2,Int.lt_irrefl,decide_false,cond_false]
theorem impl_next_ev(hP:wfs f)(h0:0≤u)(h3:u≤3){q:PQuota}(hq:(fQ f)[u.toNat]? =some q):Ev (fun k=>c_impl_FS_nextBlock k (some f,u)) (nextV q.2 (usedBs (fI f)) u):=by
 refine EvQ.run (fun k=>impl_FS_nextBlock_run k _ _) ?_
 obtain⟨r,h1,h2⟩:=taken_ev hP
 have hq':f.2.1[u.toNat]? =some q:=hq
 simp only[impl_FS_nextBlock]
 refine EvQ.bind (impl_blocks_ev hP h0 h3) ?_
 simp only[h0,if_true,hq',Option.bind_some]
 by_cases hc:q.2≤(inT (usedBs (fI f)) (u*14) 14:Int)
 ·simp only[hc,decide_true,cond_true,nextV,if_true];exact EvQ.const _
 ·simp only[hc,decide_false,cond_false,nextV,if_false]
  refine EvQ.bind h1 ?_
  have w:wrapK .i64 (u*14)=u*14:=i64w (by omega) (by omega)
  have hrl:=h2.1
  simp only[w]
  have w1:wrapK .i64 (u+1)=u+1:=i64w (by omega) (by omega)
  have w2:wrapK .i64 ((u+1)*14)=u*14+14:=by rw[i64w (by omega) (by omega)];omega
  refine EvL.ev (first_get h2 14 (u*14) (by omega) (by omega) _ _ (fun k self c x c0 c1 c2 hx=> ?_) (fun k self=> ?_) (by omega) (by cases firstF (usedBs (fI f)) 14 (u*14)<;>rfl))
  ·have c3:c<(r.length:Int):=by omega
   have c4:wrapK .i64 (c+1)=c+1:=i64w (by omega) (by omega)
   simp only[impl_FS_nextBlock_l1,w1,w2,c1,c0,c3,decide_true,cond_true,if_true,hx,Option.bind_some,c4]
  ·simp only[impl_FS_nextBlock_l1,w1,w2,Int.lt_irrefl,decide_false,cond_false]
theorem firstF_some{U:List Int}:∀{m:Nat} {a b:Int},firstF U m a=some b→a≤b∧b<a+m∧b∉U
 |0,a,b,h=>by simp[firstF]at h
 |m+1,a,b,h=>by
  classical
  simp only[firstF]at h
  split at h
  ·obtain⟨h1,h2,h3⟩:=firstF_some h
   exact⟨by omega,by omega,h3⟩
  ·injection h with h;subst h
   rename_i hn
   exact⟨by omega,by omega,hn⟩
theorem next_ok{q:Int}{U:List Int}{b:Int}{c:Int}(h:nextV q U u=(b,c)):(c=0∧u*14≤b∧b<u*14+14∧b∉U)∨c=7∨c=8:=by
 unfold nextV at h
 split at h
 ·injection h with h1 h2;omega
 ·split at h
  ·rename_i x hx
   injection h with h1 h2
   subst h1
   obtain⟨g1,g2,g3⟩:=firstF_some hx
   exact .inl ⟨h2.symm,g1,by omega,g3⟩
  ·injection h with h1 h2;omega
end
end Go.Proofs.Ytkmnlefjlhogaaa
