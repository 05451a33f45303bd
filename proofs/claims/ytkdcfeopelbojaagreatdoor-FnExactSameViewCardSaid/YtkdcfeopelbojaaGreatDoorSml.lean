/- The tables, the residual functions and lemmas of this seat: parts of the proof of the law; conditions: those that each names. -/
import Derived.Test.YtkdcfeopelbojaaGreatDoorSup
set_option linter.unusedVariables false
set_option linter.unusedSimpArgs false
set_option maxRecDepth 100000
namespace Go.Proofs.YtkdcfeopelbojaaGreatDoor
open Go.Eng
theorem S0{α:Type}(pre:List α)(x:α)(post:List α):(pre++x::post)[pre.length]? =some x:=by simp
theorem SR{α:Type}(pre:List α)(x y:α)(post:List α):(pre++x::post).set pre.length y=pre++y::post:=by simp
theorem Tb{α:Type}(pre:List α)(x:α)(post:List α):((pre.length:Int)<((pre++x::post).length:Int))=True:=by
 simp only[List.length_append,List.length_cons,eq_iff_iff,iff_true];omega
abbrev SV(x:aE):List Int:=x.2.2.2.2.2.2.2.1
abbrev SW(x:aE):List fe:=x.2.2.2.2.2.2.2.2.1
abbrev SU(x:aE):List fe:=x.2.2.2.2.2.2.2.2.2
theorem Li:∀l:List aE,(l.map fun x=>7+(SV x).length+3*(SW x).length+3*(SU x).length).sum≤7*l.length+3*(l.map c7).sum
 |[]=>by simp
 |x::l=>by
  have:=Li l
  have h:c7 x=(SV x).length+(SW x).length+(SU x).length:=rfl
  simp only[List.map_cons,List.sum_cons,List.length_cons,h]
  omega
theorem Kg{x:bW}(h:iT x≤1048576):cJ x∧(∀s∈fD x,s.size<fu)∧(fQ x).length≤1048576:=by
 have e2:iT x=x.2.1.length+dz x.2.2.1+dP x.2.2.2:=rfl
 have e3:dz x.2.2.1=x.2.2.1.length+(x.2.2.1.map c7).sum:=rfl
 have e4:dP x.2.2.2=x.2.2.2.length+(x.2.2.2.map fun y=>y.size).sum:=rfl
 refine⟨fun n hn=> ?_,fun s hs=> ?_,by show x.2.1.length≤_;omega⟩
 ·have h1:=nS c7 (show n∈x.2.2.1 from hn)
  have h2:c7 n=(SV n).length+(SW n).length+(SU n).length:=rfl
  unfold qd fu
  refine⟨?_, ?_, ?_⟩
  ·show(SV n).length<_;omega
  ·show(SW n).length<_;omega
  ·show(SU n).length<_;omega
 ·have h1:=nS (fun y:ByteArray=>y.size) (show s∈x.2.2.2 from hs)
  unfold fu
  omega
end Go.Proofs.YtkdcfeopelbojaaGreatDoor
