/- The tables, the residual functions and lemmas of this seat: parts of the proof of the law; conditions: those that each names. -/
import Derived.Test.YtnaipddflhjmfaaGreatMrk
set_option linter.unusedVariables false
set_option linter.unusedSimpArgs false
set_option maxRecDepth 100000
namespace Go.Proofs.YtnaipddflhjmfaaGreat
open Go.Eng
theorem markFS_ev(x:DFS)(hs:szM_FS x≤1048576):∃q,Ev (fun k=>c_laws_markFS k (x,(1:Int))) q∧0≤q∧q≤100000000:=by
 have e2:szM_FS x=x.2.1.length+szM_InodeS x.2.2.1+szM_StringS x.2.2.2:=rfl
 have e3:szM_InodeS x.2.2.1=x.2.2.1.length+(x.2.2.1.map szM_Inode).sum:=rfl
 have e4:szM_StringS x.2.2.2=x.2.2.2.length+(x.2.2.2.map fun y=>y.size).sum:=rfl
 have s1:=sum_inodes x.2.2.1
 have hQ:=markQuotaS_ev x.2.1 1 (by omega) (by omega)
 have hI:=markInodeS_ev x.2.2.1 (1+2*x.2.1.length) (by omega) (by omega) (by omega)
 have bI:=markG_bound (e:=mkInodeG) (c:=fun x=>7+(inB x).length+3*(inA x).length+3*(inD x).length) (B:=4611686018427387800) (l:=x.2.2.1) (m:=1+2*x.2.1.length) (by omega) (by omega) (fun x _ m _ _=>mkInodeG_le x m)
 have hT:=markStringS_ev x.2.2.2 (markG mkInodeG x.2.2.1 (1+2*x.2.1.length)).2 (by omega) (by omega)
 refine⟨(markG mkInodeG x.2.2.1 (1+2*x.2.1.length)).2+1*x.2.2.2.length,EvQ.run (fun k=>laws_markFS_run k _ _) ?_,by omega,by omega⟩
 simp only[laws_markFS]
 exact EvQ.bind hQ (EvQ.bind hI (EvQ.bind hT (EvQ.const _)))
end Go.Proofs.YtnaipddflhjmfaaGreat
