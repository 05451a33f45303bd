/- The tables, the residual functions and lemmas of this seat: parts of the proof of the law; conditions: those that each names. -/
import Derived.Test.YtkdcfeopelbojaaGreatDoorEnts
set_option linter.unusedVariables false
set_option linter.unusedSimpArgs false
set_option maxRecDepth 100000
namespace Go.Proofs.YtkdcfeopelbojaaGreatDoor
open Go.Eng
theorem A1{f:dV}(hP:qv f){i:Int}(h0:0≤i)(h1:i<20):∃n,(fI f)[i.toNat]? =some n:=by
 have:=hP.ni
 exact⟨_,List.getElem?_eq_getElem (show i.toNat<(fI f).length by omega)⟩
theorem JR{f:dV}{i:Int}{n:az}(h0:0≤i)(h1:i<20)(hn:(fI f)[i.toNat]? =some n):Ev (fun k=>js k (some f,i)) (n.1==2):=by
 refine ax.run (fun k=>Aa k _ _) ?_
 have hn':f.2.2.1[i.toNat]? =some n:=hn
 simp only[xv]
 refine ax.bind (Lj i h0 h1 hn) ?_
 cases hb:n.1 != 0 with
 |true=>simp only[cond_true,Option.bind_some,h0,if_true,hn'];exact ax.const _
 |false=>
  have h:n.1=0:=by simpa using hb
  have e:(n.1==2)=false:=by rw[h];rfl
  rw[e]
  simp only[cond_false];exact ax.const _
theorem Hr{α:Type}{f:Nat→Option α}{a b:α}(h1:Ev f a)(h2:Ev f b):a=b:=by
 obtain⟨N,h1⟩:=h1
 obtain⟨M,h2⟩:=h2
 have e:=(h1 (N+M) (by omega)).symm.trans (h2 (N+M) (by omega))
 exact Option.some.inj e
end Go.Proofs.YtkdcfeopelbojaaGreatDoor
