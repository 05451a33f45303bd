/- The tables, the residual functions and lemmas of this seat: parts of the proof of the law; conditions: those that each names. -/
import Derived.Test.YtnaipddflhjmfaaUnz
set_option linter.unusedVariables false
set_option linter.unusedSimpArgs false
set_option maxRecDepth 100000
namespace Go.Proofs.Ytnaipddflhjmfaa
open Go.Eng
theorem laws_FnExactUnpackFS_ev(x0:List ByteArray)(hx0:okD ((.list false .str)) x0):Ev (fun k=>c_laws_FnExactUnpackFS k x0) true:=by
 refine EvQ.run (fun k=>laws_FnExactUnpackFS_run k x0) ?_
 simp only[laws_FnExactUnpackFS]
 refine EvQ.bind (szStringS_ev x0 hx0 (left:=1048576) (by omega) (by omega)) ?_
 by_cases c0:szR (szM_StringS x0) 1048576<0
 ·simp only[c0,decide_true,cond_true];exact EvQ.const _
 obtain⟨d0,e0⟩:=szR_nonneg c0
 simp only[c0,decide_false,cond_false]
 have hS:szM_StringS x0≤1048576:=by omega
 have hl:szM_StringS x0=x0.length+(x0.map fun y=>y.size).sum:=rfl
 have tL:=toStringS_ev x0 (by omega)
 obtain⟨s1,s2⟩:=unpack_same hS
 have hR:=unp_size hS
 have eqR:=eqFS_ev (unpV x0).1 (by omega)
 have mL:=markStringS_ev x0 1 (by omega) (by omega)
 obtain⟨b1,b2,b3,b4,b5⟩:=markParts (unpV x0).1 (by omega)
 have n1:decide ((1:Int)+1*x0.length<0)=false:=decide_eq_false (by omega)
 have n2:decide (m3 (unpV x0).1<0)=false:=decide_eq_false (by omega)
 refine EvQ.bind tL (EvQ.bind s1 (EvQ.bind tL (EvQ.bind s2 (EvQ.bind eqR ?_))))
 simp only[Bool.not_true,cond_false,bne_self_eq_false]
 refine EvQ.bind tL (EvQ.bind (eqStringS_ev x0 (by omega)) ?_)
 simp only[Bool.not_true,cond_false,bne_self_eq_false]
 refine EvQ.bind mL ?_
 simp only[n1,cond_false]
 refine EvQ.bind eqR ?_
 simp only[Bool.not_true,cond_false,bne_self_eq_false]
 refine EvQ.bind b1 (EvQ.bind b2 (EvQ.bind b3 (EvQ.bind b4 ?_)))
 simp only[n2,cond_false,bne_self_eq_false]
 refine EvQ.bind tL (EvQ.bind s2 (EvQ.bind eqR ?_))
 simp only[Bool.not_true,cond_false,bne_self_eq_false]
 refine EvQ.bind b4 ?_
 simp only[n2,cond_false,bne_self_eq_false]
 exact EvQ.const _
end Go.Proofs.Ytnaipddflhjmfaa
