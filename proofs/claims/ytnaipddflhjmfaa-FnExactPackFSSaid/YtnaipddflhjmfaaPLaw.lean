/- The tables, the residual functions and lemmas of this seat: parts of the proof of the law; conditions: those that each names. -/
import Derived.Test.YtnaipddflhjmfaaPck
import Derived.Test.YtnaipddflhjmfaaMfs
set_option linter.unusedVariables false
set_option linter.unusedSimpArgs false
set_option maxRecDepth 100000
namespace Go.Proofs.Ytnaipddflhjmfaa
open Go.Eng
theorem laws_FnExactPackFS_ev(x0:DFS)(hx0:okD (TFSk) x0):Ev (fun k=>c_laws_FnExactPackFS k x0) true:=by
 refine EvQ.run (fun k=>laws_FnExactPackFS_run k x0) ?_
 simp only[laws_FnExactPackFS]
 refine EvQ.bind (szFS_ev x0 hx0 (left:=1048576) (by omega) (by omega)) ?_
 by_cases c0:szR (szM_FS x0) 1048576<0
 ·simp only[c0,decide_true,cond_true];exact EvQ.const _
 obtain⟨d0,e0⟩:=szR_nonneg c0
 simp only[c0,decide_false,cond_false]
 have hS:szM_FS x0≤1048576:=by omega
 have tF:=toFS_ev x0 (by omega)
 obtain⟨r,s1,s2,s3,s4⟩:=pack_same x0 hS
 have hsz:=szM_small s3 s4
 have eqR:=eqStringS_ev r (by omega)
 obtain⟨q,mF,hq,hq2⟩:=markFS_ev x0 hS
 have nq:decide (q<0)=false:=decide_eq_false (by omega)
 have mR:=markStringS_ev r 1 (by omega) (by omega)
 have hR:=heldStringS_ev r 1 (by omega) (by omega)
 have nk:decide ((1:Int)+1*r.length<0)=false:=decide_eq_false (by omega)
 refine EvQ.bind tF (EvQ.bind s1 (EvQ.bind tF (EvQ.bind s2 (EvQ.bind eqR ?_))))
 simp only[Bool.not_true,cond_false]
 refine EvQ.bind tF (EvQ.bind (eqFS_ev x0 (by omega)) ?_)
 simp only[Bool.not_true,cond_false]
 refine EvQ.bind mF ?_
 simp only[nq,cond_false]
 refine EvQ.bind eqR ?_
 simp only[Bool.not_true,cond_false]
 refine EvQ.bind mR (EvQ.bind hR ?_)
 simp only[nk,cond_false,bne_self_eq_false]
 refine EvQ.bind tF (EvQ.bind s2 (EvQ.bind eqR ?_))
 simp only[Bool.not_true,cond_false]
 refine EvQ.bind hR ?_
 simp only[nk,cond_false,bne_self_eq_false]
 exact EvQ.const _
end Go.Proofs.Ytnaipddflhjmfaa
