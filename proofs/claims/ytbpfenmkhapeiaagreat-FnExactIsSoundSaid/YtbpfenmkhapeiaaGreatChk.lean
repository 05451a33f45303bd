/- The tables, the residual functions and lemmas of this seat: parts of the proof of the law; conditions: those that each names. -/
import Derived.Test.YtbpfenmkhapeiaaGreatVss
import Derived.Test.YtbpfenmkhapeiaaGreatPrs
set_option linter.unusedVariables false
set_option linter.unusedSimpArgs false
set_option maxRecDepth 100000
namespace Go.Proofs.YtbpfenmkhapeiaaGreat
open Go.Eng
section
variable {f:PFS} {u:List Bool}
noncomputable def allP(f:PFS)(u:List Bool):Nat→List PProb
 |0=>[]
 |k+1=>allP f u k++prbs f u ((k+1:Nat):Int) 20
theorem allP_len(hP:fsP f):∀k,(allP f u k).length≤320*k
 |0=>Nat.le_refl _
 |k+1=>by
  have h1:=allP_len hP k
  have h2:=prbs_len hP (u:=u) ((k+1:Nat):Int) 20
  simp only[allP,List.length_append];omega
theorem iprob(hP:fsP f)(hu:u.length=20){K:Int}(h1:1≤K)(h7:K≤7){a:Nat}(ha:a<20):Ev (fun k=>c_impl_FS_problems k (some f,K,(a:Int),u)) (probI f u K a):=by
 obtain⟨v,hv⟩:∃v,u[a]? =some v:=⟨_,List.getElem?_eq_getElem (by omega)⟩
 obtain⟨n,hn⟩:∃n,(fI f)[a]? =some n:=⟨_,List.getElem?_eq_getElem (by have:=hP.ni;omega)⟩
 have hk:K=1∨K=2∨K=3∨K=4∨K=5∨K=6∨K=7:=by omega
 rcases hk with rfl|rfl|rfl|rfl|rfl|rfl|rfl
 ·exact iprob1 hP hn hv ha
 ·exact iprob2 hP hn hv ha
 ·exact iprob3 hP hn hv ha
 ·exact iprob4 hP hn hv ha
 ·exact iprob5 hP hn hv ha
 ·exact iprob6 hP hn hv ha
 ·exact iprob7 hP ha
theorem impl_Check_loop(hP:fsP f)(hu:u.length=20):Ev (fun k=>iter k (impl_CheckFS_l2 k) ((),([]:List PProb),(),(1:Int),u,f)) (allP f u 7):=by
 refine Ev.eq ?_
 refine EvX.upto (L:=fun k _=>impl_CheckFS_l2 k) 7 (fun(st:List PProb) K=>((),st,(),((K:Nat):Int)+1,u,f)) (fun st K=>st=allP f u K) (fun st K hK inv=> ?_) (fun st inv=> ?_) _ 0 (by omega) rfl
 ·have c:((K:Nat):Int)+1≤7:=by omega
  have hal:=allP_len hP (u:=u) K
  simp only[impl_CheckFS_l2,c,decide_true,cond_true]
  refine EvX.upto (L:=fun k (p:Unit×(_→Option (List PProb)))=>impl_CheckFS_l1 k p.2) 20 (fun(t:List PProb) a=>((),t,(),((K:Nat):Int)+1,((a:Nat):Int),u,f)) (fun t a=>t=st++prbs f u ((K+1:Nat):Int) a) (fun t a ha inv'=> ?_) (fun t inv'=> ?_) st 0 (by omega) (by simp[prbs])
  ·have c2:(a:Int)<20:=by omega
   have hpl:=prbs_len hP (u:=u) ((K+1:Nat):Int) a
   have hpi:=probI_len hP (u:=u) ((K+1:Nat):Int) a
   have hcap:(t.length+(probI f u ((K+1:Nat):Int) a).length)*24≤capBytes:=by rw[inv',List.length_append,inv];exact cap_small
   simp only[impl_CheckFS_l1,c2,decide_true,cond_true,wS a]
   refine EvX.bind (iprob hP hu (K:=((K+1:Nat):Int)) (by omega) (by omega) ha) ?_
   refine EvX.ifp hcap ?_
   refine EvX.const _ (GL.self _ rfl ?_)
   rw[inv',prbs_succ,List.append_assoc]
  ·have hw:wrapK .i64 (((K:Nat):Int)+1+1)=((K+1:Nat):Int)+1:=by rw[i64w (by omega) (by omega)];omega
   simp only[impl_CheckFS_l1,show ¬((20:Nat):Int)<20 by omega,decide_false,cond_false,hw]
   refine EvX.const _ (GE.up (S:=Unit×(_→Option (List PProb))) (fun p=>p.2 ((),t,(),((K+1:Nat):Int)+1,u,f)) ?_)
   refine GL.self t rfl ?_
   rw[inv',inv];rfl
 ·simp only[impl_CheckFS_l2,show ¬((7:Nat):Int)+1≤7 by omega,decide_false,cond_false]
  exact EvX.const _ (GE.ret (GR.ret inv))
theorem spec_Check_loop(hP:fsP f)(hu:u.length=20){cn:List Int}(hc:∀i,i<20→cn[i]? =some (lnkD f (i:Nat) 20:Int)){S:Type}:EvX (fun k (_:S)=>iter k (spec_CheckFS_l1 k) ((),([]:List PProb),cn,u,(1:Int),f)) (GR fun x=>x=allP f u 7):=by
 refine EvX.upto (L:=fun k _=>spec_CheckFS_l1 k) 7 (fun(st:List PProb) K=>((),st,cn,u,((K:Nat):Int)+1,f)) (fun st K=>st=allP f u K) (fun st K hK inv=> ?_) (fun st inv=> ?_) _ 0 (by omega) rfl
 ·have c:((K:Nat):Int)+1≤7:=by omega
  have hal:=allP_len hP (u:=u) K
  have hpl:=prbs_len hP (u:=u) ((K+1:Nat):Int) 20
  have hw:wrapK .i64 (((K:Nat):Int)+1+1)=((K+1:Nat):Int)+1:=by rw[i64w (by omega) (by omega)];omega
  have hcap:(st.length+(prbs f u ((K+1:Nat):Int) 20).length)*24≤capBytes:=by rw[inv];exact cap_small
  simp only[spec_CheckFS_l1,c,decide_true,cond_true,hw]
  refine EvX.bind (spec_Kind_ev hP hu hc (K:=((K+1:Nat):Int)) (by omega) (by omega)) ?_
  refine EvX.ifp hcap ?_
  refine EvX.const _ (GL.self _ rfl ?_)
  rw[inv];rfl
 ·simp only[spec_CheckFS_l1,show ¬((7:Nat):Int)+1≤7 by omega,decide_false,cond_false]
  exact EvX.const _ (GE.ret (GR.ret inv))
noncomputable def cnV(f:PFS)(i:Nat):List Int:=(List.range i).map fun(j:Nat)=>(lnkD f (j:Int) 20:Int)
theorem check_same(x:PFS)(hs:fsSmall x)(hb:∀s∈fD x,s.size<big):∃r,Ev (fun k=>c_spec_CheckFS k x) r∧Ev (fun k=>c_impl_CheckFS k x) r∧r.length≤2240:=by
 obtain⟨b,e1,e2,e3⟩:=(impl_IsFS_say x hs).same (spec_IsFS_say x hs hb)
 cases b with
 |false=>
  refine⟨[],EvQ.run (fun k=>spec_CheckFS_run k _) ?_,EvQ.run (fun k=>impl_CheckFS_run k _) ?_,Nat.zero_le _⟩
  ·simp only[spec_CheckFS];exact EvQ.bind e2 (EvQ.const _)
  ·simp only[impl_CheckFS];exact EvQ.bind e1 (EvQ.const _)
 |true=>
  have hP:=e3.1 rfl
  have hni:=hP.ni
  obtain⟨u,g1,g2,hu⟩:=reach_same (c:=((0:Int),(0:Int),([]:List Int))) hP hs (by unfold big;simp)
  refine⟨allP x u 7,EvQ.run (fun k=>spec_CheckFS_run k _) ?_,EvQ.run (fun k=>impl_CheckFS_run k _) ?_,allP_len hP 7⟩
  ·simp only[spec_CheckFS]
   refine EvQ.bind e2 ?_
   simp only[Bool.not_true,cond_false]
   refine Ev.eq ?_
   refine EvX.upto (L:=fun k _=>spec_CheckFS_l2 k) (fI x).length (fun(st:List Int) i=>((),([]:List PProb),st,((fI x).length:Int),((i:Nat):Int),x)) (fun st i=>st=cnV x i) (fun st i hi inv=> ?_) (fun st inv=> ?_) _ 0 (Nat.zero_le _) rfl
   ·have hcl:(cnV x i).length=i:=by simp[cnV]
    have hcap:∀v:Int,(st.length+([v]:List Int).length)*8≤capBytes:=fun v=>by rw[inv,hcl];simp only[List.length_singleton];exact cap_small
    simp only[spec_CheckFS_l2,Int.ofNat_lt,hi,decide_true,cond_true,wS i]
    refine EvX.bind (spec_LinksOf_ev hP hs hb _) ?_
    refine EvX.ifp (hcap _) ?_
    refine EvX.const _ (GL.self _ rfl ?_)
    rw[inv];simp[cnV,List.range_succ]
   ·simp only[spec_CheckFS_l2,Int.lt_irrefl,decide_false,cond_false]
    refine EvX.bind g2 ?_
    refine EvX.out (spec_Check_loop hP hu fun i hi=> ?_)
    rw[inv,hni];simp[cnV,hi]
  ·simp only[impl_CheckFS]
   refine EvQ.bind e1 ?_
   simp only[Bool.not_true,cond_false]
   exact EvQ.bind g1 (impl_Check_loop hP hu)
end
end Go.Proofs.YtbpfenmkhapeiaaGreat
