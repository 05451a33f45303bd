/- The tables, the residual functions and lemmas of this seat: parts of the proof of the law; conditions: those that each names. -/
import Derived.Test.YtkdcfeopelbojaaGreatDoorSrt
import Derived.Test.YtkdcfeopelbojaaGreatDoorHxs
import Derived.Test.YtkdcfeopelbojaaGreatDoorJon
set_option linter.unusedVariables false
set_option linter.unusedSimpArgs false
set_option maxRecDepth 100000
namespace Go.Proofs.YtkdcfeopelbojaaGreatDoor
open Go.Eng
abbrev comma:ByteArray:=⟨#[44]⟩
noncomputable def lg(f:eh)(n:az):ByteArray:=if n.1=2 then ug (jq (fz (bT f n))) comma else ofBytes (PH (rh f n))
theorem GD{f:eh}{n:az}:∀x∈jq (fz (bT f n)),x.size≤1000:=fun x hx=>by
 have hx:=(Lk _).1.mem_iff.1 hx
 obtain⟨e,he,rfl⟩:=List.mem_map.1 hx
 have:=(Ln he).1.1.2
 omega
theorem CL{f:eh}(hP:rN f){i:Nat}{n:az}(h:(fI f)[i]? =some n):(jq (fz (bT f n))).length≤16:=by
 rw[iZ,fz,List.length_map]
 exact rU (oz hP h) (hP.ino _ _ h)
theorem I2{f:eh}(hP:rN f){i:Nat}{n:az}(h:(fI f)[i]? =some n):(rh f n).size≤256:=by
 rw[xh (oz hP h) (hP.ino _ _ h)]
 have:=sP (hP.ino _ _ h)
 omega
theorem zh{f:eh}(hP:rN f){i:Nat}{n:az}(h:(fI f)[i]? =some n):(lg f n).size≤32000:=by
 rw[lg]
 split
 ·have h1:=so (sep:=comma) (by show 1≤1000;omega) (GD (f:=f) (n:=n))
  have h2:=CL hP h
  omega
 ·rw[cR,OZ]
  have:=I2 hP h
  omega
theorem Ha{f:eh}(hP:rN f){i:Nat}{n:az}(h1:i<20)(hx:(fI f)[i]? =some n):Ev (fun k=>mY k (some f,(i:Int))) (lg f n):=by
 refine aw.run (fun k=>AU k _ _) ?_
 simp only[ya]
 refine aw.bind (Le (by omega) (by omega) (Mg hx)) ?_
 have hnl:=CL hP hx
 have hcs:=I2 hP hx
 by_cases h2:n.1=2
 ·have hb:(n.1==2)=true:=beq_iff_eq.2 h2
  simp only[hb,cond_true]
  rw[lg,if_pos h2]
  exact aw.bind (G6 hP (by omega) (Mg hx)) (aw.bind (sf _ comma (by omega) (by show 1≤1000;omega) GD) (aw.const _))
 ·have hb:(n.1==2)=false:=beq_eq_false_iff_ne.2 h2
  simp only[hb,cond_false]
  rw[lg,if_neg h2]
  exact aw.bind (tJ (by omega) (Mg hx) (oz hP hx) (hP.ino _ _ hx)) (aw.bind (Hn _ (by omega)) (aw.const _))
end Go.Proofs.YtkdcfeopelbojaaGreatDoor
