/- The tables, the residual functions and lemmas of this seat: parts of the proof of the law; conditions: those that each names. -/
import Derived.Test.YtkdcfeopelbojaaGreatDoorSrt
import Derived.Test.YtkdcfeopelbojaaGreatDoorHxs
import Derived.Test.YtkdcfeopelbojaaGreatDoorJon
set_option linter.unusedVariables false
set_option linter.unusedSimpArgs false
set_option maxRecDepth 100000
namespace Go.Proofs.YtkdcfeopelbojaaGreatDoor
open Go.Eng
abbrev comma:ByteArray:=⟨#[44]⟩
noncomputable def kn(f:dV)(n:az):ByteArray:=if n.1=2 then ti (jg (fh (bR f n))) comma else ofBytes (Py (qX f n))
theorem Ek{f:dV}{n:az}:∀x∈jg (fh (bR f n)),x.size≤1000:=fun x hx=>by
 have hx:=(Kd _).1.mem_iff.1 hx
 obtain⟨e,he,rfl⟩:=List.mem_map.1 hx
 have:=(KB he).1.1.2
 omega
theorem Bq{f:dV}(hP:qv f){i:Nat}{n:az}(h:(fI f)[i]? =some n):(jg (fh (bR f n))).length≤16:=by
 rw[iF,fh,List.length_map]
 exact rm (oy hP h) (hP.ino _ _ h)
theorem IK{f:dV}(hP:qv f){i:Nat}{n:az}(h:(fI f)[i]? =some n):(qX f n).size≤256:=by
 rw[wI (oy hP h) (hP.ino _ _ h)]
 have:=sA (hP.ino _ _ h)
 omega
theorem yJ{f:dV}(hP:qv f){i:Nat}{n:az}(h:(fI f)[i]? =some n):(kn f n).size≤32000:=by
 rw[kn]
 split
 ·have h1:=sf (sep:=comma) (by show 1≤1000;omega) (Ek (f:=f) (n:=n))
  have h2:=Bq hP h
  omega
 ·rw[cP,O4]
  have:=IK hP h
  omega
theorem Gc{f:dV}(hP:qv f){i:Nat}{n:az}(h1:i<20)(hx:(fI f)[i]? =some n):Ev (fun k=>mN k (some f,(i:Int))) (kn f n):=by
 refine ax.run (fun k=>zx k _ _) ?_
 simp only[xB]
 refine ax.bind (JR (by omega) (by omega) (Ly hx)) ?_
 have hnl:=Bq hP hx
 have hcs:=IK hP hx
 by_cases h2:n.1=2
 ·have hb:(n.1==2)=true:=beq_iff_eq.2 h2
  simp only[hb,cond_true]
  rw[kn,if_pos h2]
  exact ax.bind (Gw hP (by omega) (Ly hx)) (ax.bind (rX _ comma (by omega) (by show 1≤1000;omega) Ek) (ax.const _))
 ·have hb:(n.1==2)=false:=beq_eq_false_iff_ne.2 h2
  simp only[hb,cond_false]
  rw[kn,if_neg h2]
  exact ax.bind (sY (by omega) (Ly hx) (oy hP hx) (hP.ino _ _ hx)) (ax.bind (GJ _ (by omega)) (ax.const _))
end Go.Proofs.YtkdcfeopelbojaaGreatDoor
