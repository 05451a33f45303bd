/- The tables, the residual functions and lemmas of this seat: parts of the proof of the law; conditions: those that each names. -/
import Derived.Test.YtkdcfeopelbojaaGreatDoorVsm
import Derived.Test.YtkdcfeopelbojaaGreatDoorMfs
set_option linter.unusedVariables false
set_option linter.unusedSimpArgs false
set_option maxRecDepth 100000
namespace Go.Proofs.YtkdcfeopelbojaaGreatDoor
open Go.Eng
theorem Pw{r:List ByteArray}(h1:r.length≤21)(h2:∀x∈r,x.size≤60000):cp r≤1300000:=by
 have key:∀l:List ByteArray,(∀x∈l,x.size≤60000)→(l.map fun y=>y.size).sum≤l.length*60000:=by
  intro l
  induction l with
  |nil=>intro _;simp
  |cons a l ih=>
   intro h
   have a1:=h a (by simp)
   have a2:=ih fun x hx=>h x (by simp[hx])
   simp only[List.map_cons,List.sum_cons,List.length_cons]
   omega
 have:=key r h2
 unfold cp
 omega
theorem uA(x0:ck)(x1:aT)(hx0:He (fk) x0)(hx1:He (dL) x1):Ev (fun k=>mM k (x0,x1)) true:=by
 refine aw.run (fun k=>sS k x0 x1) ?_
 simp only[oH]
 refine aw.bind (RN x0 hx0 (left:=1048576) (by omega) (by omega)) ?_
 by_cases c0:ju (kJ x0) 1048576<0
 ·simp only[c0,decide_true,cond_true];exact aw.const _
 obtain⟨d0,e0⟩:=eY c0
 simp only[c0,decide_false,cond_false]
 rw[e0]
 refine aw.bind (NV x1 hx1 (left:=1048576-(kJ x0:Int)) (by omega) (by omega)) ?_
 by_cases c1:ju (mK x1) (1048576-(kJ x0:Int))<0
 ·simp only[c1,decide_true,cond_true];exact aw.const _
 obtain⟨d1,e1⟩:=eY c1
 simp only[c1,decide_false,cond_false]
 have hS:kJ x0≤1048576:=by omega
 have hC:mK x1=x1.2.2.length:=rfl
 have tF:=QY x0 (by omega)
 have tC:=Ot x1 (by omega)
 obtain⟨h1,h2,h3⟩:=Qc hS
 obtain⟨r,s1,s2,s3,s4⟩:=OC (c:=x1) h1 h2 (by unfold ia;omega)
 have hz:=Pw s3 s4
 have eqR:=AJ r (by omega)
 obtain⟨q,mF,hq,hq2⟩:=OT x0 hS
 have mC:Ev (fun k=>ng k (x1,q)) (q+1*x1.2.2.length):=by
  refine aw.run (fun k=>BI k _ _) ?_
  simp only[yy]
  exact aw.bind (Dk x1.2.2 q hq (by omega)) (aw.const _)
 have nq:decide (q+1*(x1.2.2.length:Int)<0)=false:=decide_eq_false (by omega)
 have mR:=wF r 1 (by omega) (by omega)
 have hR:=Fk r 1 (by omega) (by omega)
 have nk:decide ((1:Int)+1*r.length<0)=false:=decide_eq_false (by omega)
 refine aw.bind tF (aw.bind tC (aw.bind s1 (aw.bind tF (aw.bind tC (aw.bind s2 (aw.bind eqR ?_))))))
 simp only[Bool.not_true,cond_false]
 refine aw.bind tF (aw.bind (R2 x0 (by omega)) ?_)
 simp only[Bool.not_true,cond_false]
 refine aw.bind tC (aw.bind (N1 x1 (by omega)) ?_)
 simp only[Bool.not_true,cond_false]
 refine aw.bind mF (aw.bind mC ?_)
 simp only[nq,cond_false]
 refine aw.bind eqR ?_
 simp only[Bool.not_true,cond_false]
 refine aw.bind mR (aw.bind hR ?_)
 simp only[nk,cond_false,bne_self_eq_false]
 refine aw.bind tF (aw.bind tC (aw.bind s2 (aw.bind eqR ?_)))
 simp only[Bool.not_true,cond_false]
 refine aw.bind hR ?_
 simp only[nk,cond_false,bne_self_eq_false]
 exact aw.const _
end Go.Proofs.YtkdcfeopelbojaaGreatDoor
