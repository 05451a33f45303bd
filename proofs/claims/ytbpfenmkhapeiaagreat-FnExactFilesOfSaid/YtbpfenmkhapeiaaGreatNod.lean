/- The tables, the residual functions and lemmas of this seat: parts of the proof of the law; conditions: those that each names. -/
import Derived.Test.YtbpfenmkhapeiaaGreatEnts
set_option linter.unusedVariables false
set_option linter.unusedSimpArgs false
set_option maxRecDepth 100000
namespace Go.Proofs.YtbpfenmkhapeiaaGreat
open Go.Eng
theorem node_at{f:PFS}(hP:fsP f){i:Int}(h0:0≤i)(h1:i<20):∃n,(fI f)[i.toNat]? =some n:=by
 have:=hP.ni
 exact⟨_,List.getElem?_eq_getElem (show i.toNat<(fI f).length by omega)⟩
theorem isDir_ev{f:PFS}{i:Int}{n:PInode}(h0:0≤i)(h1:i<20)(hn:(fI f)[i.toNat]? =some n):Ev (fun k=>c_impl_FS_isDir k (some f,i)) (n.1==2):=by
 refine EvQ.run (fun k=>impl_FS_isDir_run k _ _) ?_
 have hn':f.2.2.1[i.toNat]? =some n:=hn
 simp only[impl_FS_isDir]
 refine EvQ.bind (has_ev i h0 h1 hn) ?_
 cases hb:n.1 != 0 with
 |true=>simp only[cond_true,Option.bind_some,h0,if_true,hn'];exact EvQ.const _
 |false=>
  have h:n.1=0:=by simpa using hb
  have e:(n.1==2)=false:=by rw[h];rfl
  rw[e]
  simp only[cond_false];exact EvQ.const _
end Go.Proofs.YtbpfenmkhapeiaaGreat
