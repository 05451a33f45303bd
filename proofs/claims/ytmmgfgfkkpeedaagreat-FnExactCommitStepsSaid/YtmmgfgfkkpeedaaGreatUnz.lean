/- The tables, the residual functions and lemmas of this seat: parts of the proof of the law; conditions: those that each names. -/
import Derived.Test.YtmmgfgfkkpeedaaGreatUnq
import Derived.Test.YtmmgfgfkkpeedaaGreatSml
set_option linter.unusedVariables false
set_option linter.unusedSimpArgs false
set_option maxRecDepth 100000
namespace Go.Proofs.YtmmgfgfkkpeedaaGreat
open Go.Eng
theorem Uo(p l:List ByteArray)(f:jB):∀m i,yl p l f m i=(f,true)∨yl p l f m i=(KT,false)
 |0,i=> .inl rfl
 |m+1,i=>by
  unfold yl
  split
  ·exact .inr rfl
  ·exact Uo p l f m (i+1)
theorem Ux(l:List ByteArray):(pV l).1=KU l∨(pV l).1=KT:=by
 unfold pV
 split
 ·unfold I9
  split
  ·rcases Uo (gj (KU l)) l (KU l) (gj (KU l)).length 0 with h|h
   ·rw[h];exact .inl rfl
   ·rw[h];exact .inr rfl
  ·exact .inr rfl
 ·exact .inr rfl
theorem TT(l:List ByteArray):∀n,((l.drop n).map fun y=>y.size).sum≤(l.map fun y=>y.size).sum:=fun n=>by
 have h:(l.map fun y=>y.size).sum=((l.take n).map fun y=>y.size).sum+((l.drop n).map fun y=>y.size).sum:=by
  rw[←List.sum_append,←List.map_append,List.take_append_drop]
 omega
theorem Ti(l:List ByteArray):∀i,((iL l i).map ck).sum≤20*i
 |0=>Nat.le_refl _
 |i+1=>by
  have ih:=Ti l i
  have h:ck (lO (sI l i)).1≤20:=by
   unfold lO
   split
   ·have h1:=zj (sI l i) 8
    have h2:=Ef ((sI l i).extract 29 48)
    have h3:=Ef ((sI l i).extract 48 67)
    rw[←Rs]at h1
    rw[←Jq]at h2
    rw[←Jb]at h3
    have e:ck (ino (sI l i))=(bK (ino (sI l i))).length+(FE (ino (sI l i))).length+(FN (ino (sI l i))).length:=rfl
    rw[e];omega
   ·exact Nat.zero_le _
  rw[iL,List.map_append,List.sum_append]
  simp only[List.map_cons,List.map_nil,List.sum_cons,List.sum_nil]
  omega
theorem Tz{l:List ByteArray}(h:aW l≤1048576):eg (pV l).1≤2000000:=by
 rcases Ux l with e|e
 ·rw[e]
  have e2:eg (KU l)=(qL l 4).length+((iL l 20).length+((iL l 20).map ck).sum)+((l.drop 130).length+((l.drop 130).map fun y=>y.size).sum):=rfl
  have e4:aW l=l.length+(l.map fun y=>y.size).sum:=rfl
  have h1:=Ti l 20
  have h2:=TT l 130
  rw[e2,Nr,NM,List.length_drop]
  omega
 ·rw[e];decide
theorem Ok{l:List ByteArray}(h:aW l≤1048576)(i:Nat):(km l i).size≤1048576:=by
 have e4:aW l=l.length+(l.map fun y=>y.size).sum:=rfl
 by_cases hi:i<l.length
 ·have hm:km l i∈l:=List.mem_of_getElem? (cU hi)
  have:=dU (fun y:ByteArray=>y.size) hm
  omega
 ·rw[km,List.getElem?_eq_none (by omega)];exact Nat.zero_le _
theorem HF{l:List ByteArray}(h:aW l≤1048576):Ev (fun k=>kJ k l) (pV l)∧Ev (fun k=>kO k l) (pV l):=by
 have e4:aW l=l.length+(l.map fun y=>y.size).sum:=rfl
 exact⟨FX (Ok h) (by omega),F3 (Ok h) (by omega)⟩
end Go.Proofs.YtmmgfgfkkpeedaaGreat
