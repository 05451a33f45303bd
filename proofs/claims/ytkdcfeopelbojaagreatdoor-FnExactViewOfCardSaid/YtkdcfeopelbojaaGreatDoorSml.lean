/- The tables, the residual functions and lemmas of this seat: parts of the proof of the law; conditions: those that each names. -/
import Derived.Test.YtkdcfeopelbojaaGreatDoorSup
set_option linter.unusedVariables false
set_option linter.unusedSimpArgs false
set_option maxRecDepth 100000
namespace Go.Proofs.YtkdcfeopelbojaaGreatDoor
open Go.Eng
theorem EK{α:Type}(pre:List α)(x:α)(post:List α):(pre++x::post)[pre.length]? =some x:=by simp
theorem EV{α:Type}(pre:List α)(x y:α)(post:List α):(pre++x::post).set pre.length y=pre++y::post:=by simp
theorem LU{α:Type}(pre:List α)(x:α)(post:List α):((pre.length:Int)<((pre++x::post).length:Int))=True:=by
 simp only[List.length_append,List.length_cons,eq_iff_iff,iff_true];omega
abbrev MC(x:aA):List Int:=x.2.2.2.2.2.2.2.1
abbrev N2(x:aA):List fc:=x.2.2.2.2.2.2.2.2.1
abbrev Pm(x:aA):List fc:=x.2.2.2.2.2.2.2.2.2
theorem Gl:∀l:List aA,(l.map fun x=>7+(MC x).length+3*(N2 x).length+3*(Pm x).length).sum≤7*l.length+3*(l.map cT).sum
 |[]=>by simp
 |x::l=>by
  have:=Gl l
  have h:cT x=(MC x).length+(N2 x).length+(Pm x).length:=rfl
  simp only[List.map_cons,List.sum_cons,List.length_cons,h]
  omega
theorem Qc{x:ck}(h:kJ x≤1048576):cY x∧(∀s∈fD x,s.size<ia)∧(fQ x).length≤1048576:=by
 have e2:kJ x=x.2.1.length+cO x.2.2.1+cp x.2.2.2:=rfl
 have e3:cO x.2.2.1=x.2.2.1.length+(x.2.2.1.map cT).sum:=rfl
 have e4:cp x.2.2.2=x.2.2.2.length+(x.2.2.2.map fun y=>y.size).sum:=rfl
 refine⟨fun n hn=> ?_,fun s hs=> ?_,by show x.2.1.length≤_;omega⟩
 ·have h1:=nZ cT (show n∈x.2.2.1 from hn)
  have h2:cT n=(MC n).length+(N2 n).length+(Pm n).length:=rfl
  unfold rl ia
  refine⟨?_, ?_, ?_⟩
  ·show(MC n).length<_;omega
  ·show(N2 n).length<_;omega
  ·show(Pm n).length<_;omega
 ·have h1:=nZ (fun y:ByteArray=>y.size) (show s∈x.2.2.2 from hs)
  unfold ia
  omega
end Go.Proofs.YtkdcfeopelbojaaGreatDoor
