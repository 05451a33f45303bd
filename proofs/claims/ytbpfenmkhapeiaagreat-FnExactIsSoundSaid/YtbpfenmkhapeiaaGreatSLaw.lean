/- The tables, the residual functions and lemmas of this seat: parts of the proof of the law; conditions: those that each names. -/
import Derived.Test.YtbpfenmkhapeiaaGreatChk
set_option linter.unusedVariables false
set_option linter.unusedSimpArgs false
set_option maxRecDepth 100000
namespace Go.Proofs.YtbpfenmkhapeiaaGreat
open Go.Eng
theorem sound_same(x:PFS)(hs:fsSmall x)(hb:∀s∈fD x,s.size<big):∃r,Ev (fun k=>c_spec_IsSound k x) r∧Ev (fun k=>c_impl_IsSound k x) r:=by
 obtain⟨b,e1,e2,e3⟩:=(impl_IsFS_say x hs).same (spec_IsFS_say x hs hb)
 obtain⟨l,c1,c2,c3⟩:=check_same x hs hb
 have key:∀(L:Nat→(Unit×List PProb×Int×Int×PFS→Option Bool)→Unit×List PProb×Int×Int×PFS→Option Bool),
   (∀k self (i:Nat) p,l[i]? =some p→L k self ((),l,(l.length:Int),(i:Int),x)=bif p.1 != 7 then some false else self ((),l,(l.length:Int),((i+1:Nat):Int),x))→
   (EvX (fun k (p:Unit×(Unit×List PProb×Int×Int×PFS→Option Bool))=>L k p.2 ((),l,(l.length:Int),(l.length:Int),x)) (GE (GR fun r=>r=b)))→
   Ev (fun k=>iter k (L k) ((),l,(l.length:Int),(0:Int),x)) (bif l.any (fun p=>p.1 != 7)then false else b):=by
  intro L h1 h2
  refine Ev.eq ?_
  refine EvX.list (L:=fun k _=>L k) l (fun(_:Unit) i=>((),l,(l.length:Int),((i:Nat):Int),x)) (fun _ i=>(l.take i).any (fun p=>p.1 != 7)=false) (fun st i p hp hi inv=> ?_) (fun st inv=> ?_) () rfl
  ·refine EvX.congr (fun k s=>h1 k s.2 i p hp) ?_
   have ht:l.take (i+1)=l.take i++[p]:=by rw[List.take_add_one,hp];rfl
   refine EvX.bif (fun h=> ?_) (fun h=> ?_)
   ·refine EvX.const _ (GL.ret (GR.ret ?_))
    have:l.any (fun p=>p.1 != 7)=true:=List.any_eq_true.2 ⟨p,List.mem_of_getElem? hp,h⟩
    rw[this];rfl
   ·refine EvX.const _ (GL.self () rfl ?_)
    rw[ht,List.any_append,inv];simp[h]
  ·rw[List.take_length]at inv
   rw[inv]
   exact h2
 refine⟨bif l.any (fun p=>p.1 != 7)then false else b,EvQ.run (fun k=>spec_IsSound_run k _) ?_,EvQ.run (fun k=>impl_IsSound_run k _) ?_⟩
 ·simp only[spec_IsSound]
  refine EvQ.bind c1 (key _ (fun k self i p hp=> ?_) ?_)
  ·have hi:i<l.length:=(List.getElem?_eq_some_iff.1 hp).1
   simp only[spec_IsSound_l1,Int.ofNat_lt,hi,decide_true,cond_true,Int.natCast_nonneg,if_true,Int.toNat_natCast,hp,Option.bind_some,wS i]
  ·simp only[spec_IsSound_l1,Int.lt_irrefl,decide_false,cond_false]
   exact EvX.bind e2 (EvX.const _ (GE.ret (GR.ret rfl)))
 ·simp only[impl_IsSound]
  refine EvQ.bind c2 (key _ (fun k self i p hp=> ?_) ?_)
  ·have hi:i<l.length:=(List.getElem?_eq_some_iff.1 hp).1
   simp only[impl_IsSound_l1,Int.ofNat_lt,hi,decide_true,cond_true,Int.natCast_nonneg,if_true,Int.toNat_natCast,hp,Option.bind_some,wS i]
  ·simp only[impl_IsSound_l1,Int.lt_irrefl,decide_false,cond_false]
   exact EvX.bind e1 (EvX.const _ (GE.ret (GR.ret rfl)))
theorem laws_FnExactIsSound_ev(x0:DFS)(hx0:okD (TFSk) x0):Ev (fun k=>c_laws_FnExactIsSound k x0) true:=by
 refine EvQ.run (fun k=>laws_FnExactIsSound_run k x0) ?_
 simp only[laws_FnExactIsSound]
 refine EvQ.bind (szFS_ev x0 hx0 (left:=1048576) (by omega) (by omega)) ?_
 by_cases c0:szR (szM_FS x0) 1048576<0
 ·simp only[c0,decide_true,cond_true];exact EvQ.const _
 obtain⟨d0,e0⟩:=szR_nonneg c0
 simp only[c0,decide_false,cond_false]
 have hS:szM_FS x0≤1048576:=by omega
 have tF:=toFS_ev x0 (by omega)
 obtain⟨h1,h2,h3⟩:=fs_small hS
 obtain⟨r,s1,s2⟩:=sound_same x0 h1 h2
 refine EvQ.bind tF (EvQ.bind s1 (EvQ.bind tF (EvQ.bind s2 ?_)))
 simp only[bne_self_eq_false,cond_false]
 refine EvQ.bind tF (EvQ.bind (eqFS_ev x0 (by omega)) ?_)
 simp only[Bool.not_true,cond_false]
 exact EvQ.const _
end Go.Proofs.YtbpfenmkhapeiaaGreat
