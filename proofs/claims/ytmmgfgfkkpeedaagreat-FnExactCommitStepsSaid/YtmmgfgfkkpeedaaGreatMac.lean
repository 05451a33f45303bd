/- The tables, the residual functions and lemmas of this seat: parts of the proof of the law; conditions: those that each names. -/
import Derived.Test.YtmmgfgfkkpeedaaGreatSyt
import Derived.Test.YtmmgfgfkkpeedaaGreatSam
import Derived.Test.YtmmgfgfkkpeedaaGreatJrn
import Derived.Test.YtmmgfgfkkpeedaaGreatLod
set_option linter.unusedVariables false
set_option linter.unusedSimpArgs false
set_option maxRecDepth 100000
namespace Go.Proofs.YtmmgfgfkkpeedaaGreat
open Go.Eng
abbrev Mh:=cO×Int×EH
theorem Se(l:List ByteArray):eR (pV l).1:=by
 rcases Ux l with e|e
 ·rw[e];exact nH l
 ·rw[e];exact fun n hn=>by cases hn
theorem JF(d:cO):eR (eX d).1:=by
 unfold eX
 split
 ·exact Se _
 ·exact fun n hn=>by cases hn
theorem LM(d:cO):NV (eX d).1:=by
 have h:=Sp d
 have e2:eg (eX d).1=(eX d).1.2.1.length+cB (eX d).1.2.2.1+aW (eX d).1.2.2.2:=rfl
 have e3:cB (eX d).1.2.2.1=(eX d).1.2.2.1.length+((eX d).1.2.2.1.map ck).sum:=rfl
 have e4:aW (eX d).1.2.2.2=(eX d).1.2.2.2.length+((eX d).1.2.2.2.map fun y=>y.size).sum:=rfl
 unfold NV m6
 refine⟨?_, ?_, ?_⟩
 ·show(eX d).1.2.1.length<_;omega
 ·show(eX d).1.2.2.1.length<_;omega
 ·show(eX d).1.2.2.2.length<_;omega
structure Wm (m:Mh):Prop where
 sys:U4 m.2.2
 seq:0≤m.2.1∧m.2.1≤1000000000
 X3:mj m.1
 XW:m.1.2.length=0
 X1:(jR m.1).2.2=false
 XZ:(eX m.1).2=true
 X5:(eX m.1).1=m.2.2.1
theorem Ch(m:Mh)(hs:yD m.2.2)(hd:It m.1):cA (fun k=>ng k m) (Wm m):=by
 refine cA.run (fun k=>B8 k m) (cA.of ?_)
 simp only[xO]
 refine aj.pX (Eb m.2.2 hs) fun y hy=>aj.bif (fun h=>aj.const _ (GP.no fun hP=>by rw[hy.2 hP.sys]at h;cases h)) (fun h=> ?_)
 have q1:=hy.1 (by simpa using h)
 refine aj.bif (fun h=>aj.const _ (GP.no fun hP=>by have:=hP.seq;have:=of_decide_eq_true h;omega)) (fun h2=> ?_)
 refine aj.bif (fun h=>aj.const _ (GP.no fun hP=>by have:=hP.seq;have:=of_decide_eq_true h;omega)) (fun h3=> ?_)
 have h2:=of_decide_eq_false h2
 have h3:=of_decide_eq_false h3
 refine aj.pX (ie m.1 hd) fun z hz=>aj.bif (fun h=>aj.const _ (GP.no fun hP=>by rw[hz.2 hP.X3]at h;cases h)) (fun h=> ?_)
 have q2:=hz.1 (by simpa using h)
 refine aj.bif (fun h=>aj.const _ (GP.no fun hP=>by have:=hP.XW;have:=of_decide_eq_true h;omega)) (fun h4=> ?_)
 have h4:=of_decide_eq_false h4
 refine aj.bind (QW m.1 hd) (aj.bif (fun h=>aj.const _ (GP.no fun hP=>by rw[hP.X1]at h;cases h)) (fun h5=> ?_))
 refine aj.bind (Jl m.1 hd) (aj.bif (fun h6=> ?_) (fun h=>aj.const _ (GP.no fun hP=>by rw[hP.XZ]at h;cases h)))
 refine aj.pX (HP (eX m.1).1 m.2.2.1 (JF _) (LM _)) fun w hw=>aj.const _ (GP.ret ?_)
 rw[hw]
 exact⟨fun h=>⟨q1,by omega,q2,by omega,h5,h6,h⟩,fun hP=>hP.X5⟩
theorem Cc(m:Mh)(hs:yD m.2.2)(hd:It m.1):cA (fun k=>nG k m) (Wm m):=by
 refine cA.run (fun k=>CB k m) (cA.of ?_)
 simp only[zH]
 refine aj.pX (ES m.2.2 hs) fun y hy=>aj.bif (fun h=>aj.const _ (GP.no fun hP=>by rw[hy.2 hP.sys]at h;cases h)) (fun h=> ?_)
 have q1:=hy.1 (by simpa using h)
 refine aj.bind (bH _ _ _) (aj.bif (fun h=>aj.const _ (GP.no fun hP=>by have:=hP.seq;simp[this]at h)) (fun h2=> ?_))
 have h2:0≤m.2.1∧m.2.1≤1000000000:=by simpa using h2
 refine aj.pX (ik m.1 hd) fun z hz=>aj.bif (fun h=>aj.const _ (GP.no fun hP=>by rw[hz.2 hP.X3]at h;cases h)) (fun h=> ?_)
 have q2:=hz.1 (by simpa using h)
 refine aj.bif (fun h=>aj.const _ (GP.no fun hP=>by have:=hP.XW;have:=of_decide_eq_true h;omega)) (fun h4=> ?_)
 have h4:=of_decide_eq_false h4
 refine aj.bind (QC m.1 hd) (aj.bind (Kp m.1 hd) (aj.bif (fun h5=> ?_) (fun h=>aj.const _ (GP.no fun hP=>by rw[hP.X1]at h;cases h))))
 have h5:(jR m.1).2.2=false:=by simpa using h5
 refine aj.bif (fun h6=> ?_) (fun h=>aj.const _ (GP.no fun hP=>by rw[hP.XZ]at h;cases h))
 refine aj.pX (IC (eX m.1).1 m.2.2.1 (JF _) (LM _)) fun w hw=>aj.const _ (GP.ret ?_)
 rw[hw]
 exact⟨fun h=>⟨q1,h2,q2,by omega,h5,h6,h⟩,fun hP=>hP.X5⟩
end Go.Proofs.YtmmgfgfkkpeedaaGreat
