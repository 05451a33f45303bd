/- The tables, the residual functions and lemmas of this seat: parts of the proof of the law; conditions: those that each names. -/
import Derived.Test.YtmmgfgfkkpeedaaGreatMac
set_option linter.unusedVariables false
set_option linter.unusedSimpArgs false
set_option maxRecDepth 100000
namespace Go.Proofs.YtmmgfgfkkpeedaaGreat
open Go.Eng
theorem sys_small{s:PSys}(h:szM_System s≤1048576):sysSmall s:=by
 have e:szM_System s=szM_FS s.1+szM_ProcS s.2:=rfl
 have e2:szM_ProcS s.2=s.2.length+(s.2.map szM_Proc).sum:=rfl
 obtain⟨h1,h2,h3⟩:=fs_small (x:=s.1) (by omega)
 refine⟨⟨by omega,fun p hp=> ?_⟩,h1,h2⟩
 have h4:=le_sum_map szM_Proc hp
 have e3:szM_Proc p=p.1.2.2.length+p.2.length:=rfl
 omega
theorem laws_FnExactIsMachine_ev(x0:DMachine)(hx0:okD (TMachinek) x0):Ev (fun k=>c_laws_FnExactIsMachine k x0) true:=by
 refine EvQ.run (fun k=>laws_FnExactIsMachine_run k x0) ?_
 simp only[laws_FnExactIsMachine]
 refine EvQ.bind (szMachine_ev x0 hx0 (left:=1048576) (by omega) (by omega)) ?_
 by_cases c0:szR (szM_Machine x0) 1048576<0
 ·simp only[c0,decide_true,cond_true];exact EvQ.const _
 obtain⟨d0,e0⟩:=szR_nonneg c0
 simp only[c0,decide_false,cond_false]
 have hS:szM_Machine x0≤1048576:=by omega
 have e:szM_Machine x0=szM_Disk x0.1+szM_System x0.2.2:=rfl
 have e1:szM_Disk x0.1=(x0.1.1.length+(x0.1.1.map fun y=>y.size).sum)+(x0.1.2.length+(x0.1.2.map szM_Write).sum):=rfl
 have hs:dskS x0.1:=⟨by omega,by omega⟩
 have tM:=toMachine_ev x0 (by omega)
 obtain⟨b,s1,s2,_⟩:=(spec_IsMachine_say x0 (sys_small (by omega)) hs).same (impl_IsMachine_say x0 (sys_small (by omega)) hs)
 have eqM:=eqMachine_ev x0 (by omega)
 refine EvQ.bind tM (EvQ.bind s1 (EvQ.bind tM (EvQ.bind s2 ?_)))
 simp only[bne_self_eq_false,cond_false]
 refine EvQ.bind tM (EvQ.bind eqM ?_)
 simp only[Bool.not_true,cond_false]
 exact EvQ.const _
end Go.Proofs.YtmmgfgfkkpeedaaGreat
