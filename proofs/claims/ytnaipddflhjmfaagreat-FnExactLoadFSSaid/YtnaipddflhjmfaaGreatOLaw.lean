/- The tables, the residual functions and lemmas of this seat: parts of the proof of the law; conditions: those that each names. -/
import Derived.Test.YtnaipddflhjmfaaGreatLod
set_option linter.unusedVariables false
set_option linter.unusedSimpArgs false
set_option maxRecDepth 100000
namespace Go.Proofs.YtnaipddflhjmfaaGreat
open Go.Eng
theorem laws_FnExactLoadFS_ev(x0:DDisk)(hx0:okD (TDiskk) x0):Ev (fun k=>c_laws_FnExactLoadFS k x0) true:=by
 refine EvQ.run (fun k=>laws_FnExactLoadFS_run k x0) ?_
 simp only[laws_FnExactLoadFS]
 refine EvQ.bind (szDisk_ev x0 hx0 (left:=1048576) (by omega) (by omega)) ?_
 by_cases c0:szR (szM_Disk x0) 1048576<0
 ·simp only[c0,decide_true,cond_true];exact EvQ.const _
 obtain⟨d0,e0⟩:=szR_nonneg c0
 simp only[c0,decide_false,cond_false]
 have hS:szM_Disk x0≤1048576:=by omega
 have e:szM_Disk x0=(x0.1.length+(x0.1.map fun y=>y.size).sum)+(x0.2.length+(x0.2.map szM_Write).sum):=rfl
 have hs:dskS x0:=⟨by omega,by omega⟩
 have tD:=toDisk_ev x0 (by omega)
 have s1:=spec_LoadFS_ev x0 hs
 have s2:=impl_LoadFS_ev x0 hs
 have hR:=load_size x0
 have eqR:=eqFS_ev (loadV x0).1 (by omega)
 have eqX:=eqDisk_ev x0 (by omega)
 have mD:Ev (fun k=>c_laws_markDisk k (x0,(1:Int))) ((1:Int)+1*x0.1.length+2*x0.2.length):=by
  refine EvQ.run (fun k=>laws_markDisk_run k _ _) ?_
  simp only[laws_markDisk]
  exact EvQ.bind (markStringS_ev x0.1 1 (by omega) (by omega)) (EvQ.bind (markWriteS_ev x0.2 (1+1*x0.1.length) (by omega) (by omega)) (EvQ.const _))
 obtain⟨b1,b2,b3,b4,b5⟩:=markParts (loadV x0).1 (by omega)
 have n1:decide ((1:Int)+1*x0.1.length+2*x0.2.length<0)=false:=decide_eq_false (by omega)
 have n2:decide (m3 (loadV x0).1<0)=false:=decide_eq_false (by omega)
 refine EvQ.bind tD (EvQ.bind s1 (EvQ.bind tD (EvQ.bind s2 (EvQ.bind eqR ?_))))
 simp only[Bool.not_true,cond_false,bne_self_eq_false]
 refine EvQ.bind tD (EvQ.bind eqX ?_)
 simp only[Bool.not_true,cond_false]
 refine EvQ.bind mD ?_
 simp only[n1,cond_false]
 refine EvQ.bind eqR ?_
 simp only[Bool.not_true,cond_false,bne_self_eq_false]
 refine EvQ.bind b1 (EvQ.bind b2 (EvQ.bind b3 (EvQ.bind b4 ?_)))
 simp only[n2,cond_false,bne_self_eq_false]
 refine EvQ.bind tD (EvQ.bind s2 (EvQ.bind eqR ?_))
 simp only[Bool.not_true,cond_false,bne_self_eq_false]
 refine EvQ.bind b4 ?_
 simp only[n2,cond_false,bne_self_eq_false]
 exact EvQ.const _
end Go.Proofs.YtnaipddflhjmfaaGreat
