/- The tables, the residual functions and lemmas of this seat: parts of the proof of the law; conditions: those that each names. -/
import Derived.Test.YtmmgfgfkkpeedaaGreatSup
set_option linter.unusedVariables false
set_option linter.unusedSimpArgs false
set_option maxRecDepth 100000
namespace Go.Proofs.YtmmgfgfkkpeedaaGreat
open Go.Eng
theorem z8{α:Type}(pre:List α)(x:α)(post:List α):(pre++x::post)[pre.length]? =some x:=by simp
theorem vH{α:Type}(pre:List α)(x y:α)(post:List α):(pre++x::post).set pre.length y=pre++y::post:=by simp
theorem I2{α:Type}(pre:List α)(x:α)(post:List α):((pre.length:Int)<((pre++x::post).length:Int))=True:=by
 simp only[List.length_append,List.length_cons,eq_iff_iff,iff_true];omega
abbrev PO(x:ax):List Int:=x.2.2.2.2.2.2.2.1
abbrev R9(x:ax):List dK:=x.2.2.2.2.2.2.2.2.1
abbrev To(x:ax):List dK:=x.2.2.2.2.2.2.2.2.2
theorem JN:∀l:List ax,(l.map fun x=>7+(PO x).length+3*(R9 x).length+3*(To x).length).sum≤7*l.length+3*(l.map ck).sum
 |[]=>by simp
 |x::l=>by
  have:=JN l
  have h:ck x=(PO x).length+(R9 x).length+(To x).length:=rfl
  simp only[List.map_cons,List.sum_cons,List.length_cons,h]
  omega
theorem J2{x:cQ}(h:eg x≤1048576):eR x∧(∀s∈fD x,s.size<m6)∧(fQ x).length≤1048576:=by
 have e2:eg x=x.2.1.length+cB x.2.2.1+aW x.2.2.2:=rfl
 have e3:cB x.2.2.1=x.2.2.1.length+(x.2.2.1.map ck).sum:=rfl
 have e4:aW x.2.2.2=x.2.2.2.length+(x.2.2.2.map fun y=>y.size).sum:=rfl
 refine⟨fun n hn=> ?_,fun s hs=> ?_,by show x.2.1.length≤_;omega⟩
 ·have h1:=dU ck (show n∈x.2.2.1 from hn)
  have h2:ck n=(PO n).length+(R9 n).length+(To n).length:=rfl
  unfold gV m6
  refine⟨?_, ?_, ?_⟩
  ·show(PO n).length<_;omega
  ·show(R9 n).length<_;omega
  ·show(To n).length<_;omega
 ·have h1:=dU (fun y:ByteArray=>y.size) (show s∈x.2.2.2 from hs)
  unfold m6
  omega
end Go.Proofs.YtmmgfgfkkpeedaaGreat
