/- The tables, the residual functions and lemmas of this seat: parts of the proof of the law; conditions: those that each names. -/
import Derived.Test.YtbpfenmkhapeiaaGreatFxl
set_option linter.unusedVariables false
set_option linter.unusedSimpArgs false
set_option maxRecDepth 100000
namespace Go.Proofs.YtbpfenmkhapeiaaGreat
open Go.Eng
theorem laws_FnExactFixLinks_ev(x0:DFS)(hx0:okD (TFSk) x0):Ev (fun k=>c_laws_FnExactFixLinks k x0) true:=by
 refine EvQ.run (fun k=>laws_FnExactFixLinks_run k x0) ?_
 simp only[laws_FnExactFixLinks]
 refine EvQ.bind (szFS_ev x0 hx0 (left:=1048576) (by omega) (by omega)) ?_
 by_cases c0:szR (szM_FS x0) 1048576<0
 ·simp only[c0,decide_true,cond_true];exact EvQ.const _
 obtain⟨d0,e0⟩:=szR_nonneg c0
 simp only[c0,decide_false,cond_false]
 have hS:szM_FS x0≤1048576:=by omega
 have tF:=toFS_ev x0 (by omega)
 obtain⟨h1,h2,h3⟩:=fs_small hS
 obtain⟨r,s1,s2,j,hr⟩:=fix_same x0 h1 h2 (cap_of hS)
 have hR:szM_FS r≤1048576:=by
  rcases hr with rfl|rfl
  ·exact hS
  ·rw[fix_size];exact hS
 have eqR:=eqFS_ev r (by omega)
 obtain⟨a1,a2,a3,a4,a5⟩:=markParts x0 (by omega)
 obtain⟨b1,b2,b3,b4,b5⟩:=markParts r (by omega)
 have n1:decide (m3 x0<0)=false:=decide_eq_false (by omega)
 have n2:decide (m3 r<0)=false:=decide_eq_false (by omega)
 refine EvQ.bind tF (EvQ.bind s1 (EvQ.bind tF (EvQ.bind s2 (EvQ.bind eqR ?_))))
 simp only[Bool.not_true,cond_false]
 refine EvQ.bind tF (EvQ.bind (eqFS_ev x0 (by omega)) ?_)
 simp only[Bool.not_true,cond_false]
 refine EvQ.bind a1 (EvQ.bind a2 (EvQ.bind a3 ?_))
 simp only[n1,cond_false]
 refine EvQ.bind eqR ?_
 simp only[Bool.not_true,cond_false]
 refine EvQ.bind b1 (EvQ.bind b2 (EvQ.bind b3 (EvQ.bind b4 ?_)))
 simp only[n2,cond_false,bne_self_eq_false]
 refine EvQ.bind tF (EvQ.bind s2 (EvQ.bind eqR ?_))
 simp only[Bool.not_true,cond_false]
 refine EvQ.bind b4 ?_
 simp only[n2,cond_false,bne_self_eq_false]
 exact EvQ.const _
end Go.Proofs.YtbpfenmkhapeiaaGreat
