/- The tables, the residual functions and lemmas of this seat: parts of the proof of the law; conditions: those that each names. -/
import Derived.Test.YtkdcfeopelbojaaGreatDoorMrk
set_option linter.unusedVariables false
set_option linter.unusedSimpArgs false
set_option maxRecDepth 100000
namespace Go.Proofs.YtkdcfeopelbojaaGreatDoor
open Go.Eng
theorem OT(x:ck)(hs:kJ x≤1048576):∃q,Ev (fun k=>qp k (x,(1:Int))) q∧0≤q∧q≤100000000:=by
 have e2:kJ x=x.2.1.length+cO x.2.2.1+cp x.2.2.2:=rfl
 have e3:cO x.2.2.1=x.2.2.1.length+(x.2.2.1.map cT).sum:=rfl
 have e4:cp x.2.2.2=x.2.2.2.length+(x.2.2.2.map fun y=>y.size).sum:=rfl
 have s1:=Gl x.2.2.1
 have hQ:=Hw x.2.1 1 (by omega) (by omega)
 have hI:=Hb x.2.2.1 (1+2*x.2.1.length) (by omega) (by omega) (by omega)
 have bI:=Dr (e:=jr) (c:=fun x=>7+(MC x).length+3*(N2 x).length+3*(Pm x).length) (B:=4611686018427387800) (l:=x.2.2.1) (m:=1+2*x.2.1.length) (by omega) (by omega) (fun x _ m _ _=>Du x m)
 have hT:=wF x.2.2.2 (ie jr x.2.2.1 (1+2*x.2.1.length)).2 (by omega) (by omega)
 refine⟨(ie jr x.2.2.1 (1+2*x.2.1.length)).2+1*x.2.2.2.length,aw.run (fun k=>DZ k _ _) ?_,by omega,by omega⟩
 simp only[C8]
 exact aw.bind hQ (aw.bind hI (aw.bind hT (aw.const _)))
end Go.Proofs.YtkdcfeopelbojaaGreatDoor
