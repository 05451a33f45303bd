/- The tables, the residual functions and lemmas of this seat: parts of the proof of the law; conditions: those that each names. -/
import Derived.Test.YtnaipddflhjmfaaGreatPck
import Derived.Test.YtnaipddflhjmfaaGreatMfs
set_option linter.unusedVariables false
set_option linter.unusedSimpArgs false
set_option maxRecDepth 100000
namespace Go.Proofs.YtnaipddflhjmfaaGreat
open Go.Eng
theorem heldDisk_ev(a:List ByteArray)(b:List DWrite)(ha:a.length≤1073741824)(hb:b.length≤1073741824):
  Ev (fun k=>c_laws_heldDisk k ((markF mkStringS 1 a 1,markF mkWriteS 2 b (1+1*a.length)),(1:Int))) (1+1*a.length+2*b.length):=by
 refine EvQ.run (fun k=>laws_heldDisk_run k _ _) ?_
 simp only[laws_heldDisk]
 refine EvQ.bind (heldStringS_ev a 1 (by omega) (by omega)) ?_
 have n1:decide ((1:Int)+1*a.length<0)=false:=decide_eq_false (by omega)
 simp only[n1,cond_false]
 refine EvQ.bind (heldWriteS_ev b (1+1*a.length) (by omega) (by omega)) ?_
 have n2:decide ((1:Int)+1*a.length+2*b.length<0)=false:=decide_eq_false (by omega)
 simp only[n2,cond_false]
 exact EvQ.const _
theorem format_same(x:DFS)(h:szM_FS x≤1048576):∃r:List ByteArray,Ev (fun k=>c_spec_FormatFS k x) (r,[])∧Ev (fun k=>c_impl_FormatFS k x) (r,[])∧r.length≤186∧∀s∈r,s.size≤1000:=by
 obtain⟨h1,h2,h3⟩:=fs_small h
 obtain⟨b,e1,e2,e3⟩:=(impl_IsFS_say x h1).same (spec_IsFS_say x h1 h2)
 cases b with
 |true=>
  have hP:=e3.1 rfl
  obtain⟨q1,q2⟩:=packV_ok hP
  refine⟨packV x,EvQ.run (fun k=>spec_FormatFS_run k _) ?_,EvQ.run (fun k=>impl_FormatFS_run k _) ?_,q1,q2⟩
  ·simp only[spec_FormatFS]
   refine EvQ.bind e2 ?_
   simp only[Bool.not_true,cond_false]
   exact EvQ.bind (spec_Pack_ev hP h1) (EvQ.const _)
  ·simp only[impl_FormatFS]
   exact EvQ.bind (impl_Pack_ev hP h1 e1) (EvQ.const _)
 |false=>
  refine⟨[],EvQ.run (fun k=>spec_FormatFS_run k _) ?_,EvQ.run (fun k=>impl_FormatFS_run k _) ?_,Nat.zero_le _,(fun s hs=>by cases hs)⟩
  ·simp only[spec_FormatFS];exact EvQ.bind e2 (EvQ.const _)
  ·simp only[impl_FormatFS]
   refine EvQ.bind (a:=[]) (EvQ.run (fun k=>impl_PackFS_run k _) ?_) (EvQ.const _)
   simp only[impl_PackFS];exact EvQ.bind e1 (EvQ.const _)
theorem laws_FnExactFormatFS_ev(x0:DFS)(hx0:okD (TFSk) x0):Ev (fun k=>c_laws_FnExactFormatFS k x0) true:=by
 refine EvQ.run (fun k=>laws_FnExactFormatFS_run k x0) ?_
 simp only[laws_FnExactFormatFS]
 refine EvQ.bind (szFS_ev x0 hx0 (left:=1048576) (by omega) (by omega)) ?_
 by_cases c0:szR (szM_FS x0) 1048576<0
 ·simp only[c0,decide_true,cond_true];exact EvQ.const _
 obtain⟨d0,e0⟩:=szR_nonneg c0
 simp only[c0,decide_false,cond_false]
 have hS:szM_FS x0≤1048576:=by omega
 have tF:=toFS_ev x0 (by omega)
 obtain⟨r,s1,s2,s3,s4⟩:=format_same x0 hS
 have hsz:=szM_small s3 s4
 have er:szM_Disk (r,([]:List DWrite))=(r.length+(r.map fun y=>y.size).sum)+0:=rfl
 have er2:szM_StringS r=r.length+(r.map fun y=>y.size).sum:=rfl
 have eqR:=eqDisk_ev (r,[]) (by omega)
 obtain⟨q,mF,hq,hq2⟩:=markFS_ev x0 hS
 have nq:decide (q<0)=false:=decide_eq_false (by omega)
 have k1:=markStringS_ev r 1 (by omega) (by omega)
 have k2:=markWriteS_ev [] (1+1*r.length) (by omega) (by simp;omega)
 have hH:=heldDisk_ev r [] (by omega) (by simp)
 have n2:decide ((1:Int)+1*r.length+2*(([]:List DWrite).length:Nat)<0)=false:=decide_eq_false (by simp;omega)
 refine EvQ.bind tF (EvQ.bind s1 (EvQ.bind tF (EvQ.bind s2 (EvQ.bind eqR ?_))))
 simp only[Bool.not_true,cond_false]
 refine EvQ.bind tF (EvQ.bind (eqFS_ev x0 (by omega)) ?_)
 simp only[Bool.not_true,cond_false]
 refine EvQ.bind mF ?_
 simp only[nq,cond_false]
 refine EvQ.bind eqR ?_
 simp only[Bool.not_true,cond_false]
 refine EvQ.bind k1 (EvQ.bind k2 (EvQ.bind hH ?_))
 simp only[n2,cond_false,bne_self_eq_false]
 refine EvQ.bind tF (EvQ.bind s2 (EvQ.bind eqR ?_))
 simp only[Bool.not_true,cond_false]
 refine EvQ.bind hH ?_
 simp only[n2,cond_false,bne_self_eq_false]
 exact EvQ.const _
end Go.Proofs.YtnaipddflhjmfaaGreat
