/- The tables, the residual functions and lemmas of this seat: parts of the proof of the law; conditions: those that each names. -/
import Derived.Test.YtmmgfgfkkpeedaaGreatSyt
import Derived.Test.YtmmgfgfkkpeedaaGreatSam
import Derived.Test.YtmmgfgfkkpeedaaGreatJrn
import Derived.Test.YtmmgfgfkkpeedaaGreatLod
set_option linter.unusedVariables false
set_option linter.unusedSimpArgs false
set_option maxRecDepth 100000
namespace Go.Proofs.YtmmgfgfkkpeedaaGreat
open Go.Eng
abbrev PMach:=PDisk×Int×PSys
theorem unp_small(l:List ByteArray):fsSmall (unpV l).1:=by
 rcases unp_or l with e|e
 ·rw[e];exact fOf_small l
 ·rw[e];exact fun n hn=>by cases hn
theorem load_small(d:PDisk):fsSmall (loadV d).1:=by
 unfold loadV
 split
 ·exact unp_small _
 ·exact fun n hn=>by cases hn
theorem load_lens(d:PDisk):fsLens (loadV d).1:=by
 have h:=load_size d
 have e2:szM_FS (loadV d).1=(loadV d).1.2.1.length+szM_InodeS (loadV d).1.2.2.1+szM_StringS (loadV d).1.2.2.2:=rfl
 have e3:szM_InodeS (loadV d).1.2.2.1=(loadV d).1.2.2.1.length+((loadV d).1.2.2.1.map szM_Inode).sum:=rfl
 have e4:szM_StringS (loadV d).1.2.2.2=(loadV d).1.2.2.2.length+((loadV d).1.2.2.2.map fun y=>y.size).sum:=rfl
 unfold fsLens big
 refine⟨?_, ?_, ?_⟩
 ·show(loadV d).1.2.1.length<_;omega
 ·show(loadV d).1.2.2.1.length<_;omega
 ·show(loadV d).1.2.2.2.length<_;omega
structure macP (m:PMach):Prop where
 sys:sysP m.2.2
 seq:0≤m.2.1∧m.2.1≤1000000000
 dsk:diskP m.1
 pen:m.1.2.length=0
 jrn:(jR m.1).2.2=false
 lod:(loadV m.1).2=true
 eqf:(loadV m.1).1=m.2.2.1
theorem impl_IsMachine_say(m:PMach)(hs:sysSmall m.2.2)(hd:dskS m.1):Say (fun k=>c_impl_IsMachine k m) (macP m):=by
 refine Say.run (fun k=>impl_IsMachine_run k m) (Say.of ?_)
 simp only[impl_IsMachine]
 refine EvX.say (impl_IsSystem_say m.2.2 hs) fun y hy=>EvX.bif (fun h=>EvX.const _ (GP.no fun hP=>by rw[hy.2 hP.sys]at h;cases h)) (fun h=> ?_)
 have q1:=hy.1 (by simpa using h)
 refine EvX.bif (fun h=>EvX.const _ (GP.no fun hP=>by have:=hP.seq;have:=of_decide_eq_true h;omega)) (fun h2=> ?_)
 refine EvX.bif (fun h=>EvX.const _ (GP.no fun hP=>by have:=hP.seq;have:=of_decide_eq_true h;omega)) (fun h3=> ?_)
 have h2:=of_decide_eq_false h2
 have h3:=of_decide_eq_false h3
 refine EvX.say (impl_IsDisk_say m.1 hd) fun z hz=>EvX.bif (fun h=>EvX.const _ (GP.no fun hP=>by rw[hz.2 hP.dsk]at h;cases h)) (fun h=> ?_)
 have q2:=hz.1 (by simpa using h)
 refine EvX.bif (fun h=>EvX.const _ (GP.no fun hP=>by have:=hP.pen;have:=of_decide_eq_true h;omega)) (fun h4=> ?_)
 have h4:=of_decide_eq_false h4
 refine EvX.bind (impl_RJ_ev m.1 hd) (EvX.bif (fun h=>EvX.const _ (GP.no fun hP=>by rw[hP.jrn]at h;cases h)) (fun h5=> ?_))
 refine EvX.bind (impl_LoadFS_ev m.1 hd) (EvX.bif (fun h6=> ?_) (fun h=>EvX.const _ (GP.no fun hP=>by rw[hP.lod]at h;cases h)))
 refine EvX.say (impl_SameFS_say (loadV m.1).1 m.2.2.1 (load_small _) (load_lens _)) fun w hw=>EvX.const _ (GP.ret ?_)
 rw[hw]
 exact⟨fun h=>⟨q1,by omega,q2,by omega,h5,h6,h⟩,fun hP=>hP.eqf⟩
theorem spec_IsMachine_say(m:PMach)(hs:sysSmall m.2.2)(hd:dskS m.1):Say (fun k=>c_spec_IsMachine k m) (macP m):=by
 refine Say.run (fun k=>spec_IsMachine_run k m) (Say.of ?_)
 simp only[spec_IsMachine]
 refine EvX.say (spec_IsSystem_say m.2.2 hs) fun y hy=>EvX.bif (fun h=>EvX.const _ (GP.no fun hP=>by rw[hy.2 hP.sys]at h;cases h)) (fun h=> ?_)
 have q1:=hy.1 (by simpa using h)
 refine EvX.bind (l01In_ev _ _ _) (EvX.bif (fun h=>EvX.const _ (GP.no fun hP=>by have:=hP.seq;simp[this]at h)) (fun h2=> ?_))
 have h2:0≤m.2.1∧m.2.1≤1000000000:=by simpa using h2
 refine EvX.say (spec_IsDisk_say m.1 hd) fun z hz=>EvX.bif (fun h=>EvX.const _ (GP.no fun hP=>by rw[hz.2 hP.dsk]at h;cases h)) (fun h=> ?_)
 have q2:=hz.1 (by simpa using h)
 refine EvX.bif (fun h=>EvX.const _ (GP.no fun hP=>by have:=hP.pen;have:=of_decide_eq_true h;omega)) (fun h4=> ?_)
 have h4:=of_decide_eq_false h4
 refine EvX.bind (spec_RJ_ev m.1 hd) (EvX.bind (spec_LoadFS_ev m.1 hd) (EvX.bif (fun h5=> ?_) (fun h=>EvX.const _ (GP.no fun hP=>by rw[hP.jrn]at h;cases h))))
 have h5:(jR m.1).2.2=false:=by simpa using h5
 refine EvX.bif (fun h6=> ?_) (fun h=>EvX.const _ (GP.no fun hP=>by rw[hP.lod]at h;cases h))
 refine EvX.say (spec_SameFS_say (loadV m.1).1 m.2.2.1 (load_small _) (load_lens _)) fun w hw=>EvX.const _ (GP.ret ?_)
 rw[hw]
 exact⟨fun h=>⟨q1,h2,q2,by omega,h5,h6,h⟩,fun hP=>hP.eqf⟩
end Go.Proofs.YtmmgfgfkkpeedaaGreat
