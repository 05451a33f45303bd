/- The tables, the residual functions and lemmas of this seat: parts of the proof of the law; conditions: those that each names. -/
import Derived.Test.YtmmgfgfkkpeedaaGreatSup
set_option linter.unusedVariables false
set_option linter.unusedSimpArgs false
set_option maxRecDepth 100000
namespace Go.Proofs.YtmmgfgfkkpeedaaGreat
open Go.Eng
theorem spec_super_ev(f:PFS)(hl:(fQ f).length≤1048576):Ev (fun k=>c_spec_l18Super k f) (superB f):=by
 refine EvQ.run (fun k=>spec_l18Super_run k _) ?_
 simp only[spec_l18Super]
 refine EvQ.bind (spec_PutNumber_ev f.1 4 (by omega) (by omega)) ?_
 have h4:=putB_size f.1 4
 have e:(⟨#[70,83,89,83]⟩:ByteArray).size=4:=rfl
 refine EvQ.ifp (by rw[e];omega) ?_
 refine Ev.eq ?_
 refine EvX.list (L:=fun k _=>spec_l18Super_l1 k) (fQ f) (fun(st:ByteArray) i=>(st,fQ f,((fQ f).length:Int),((i:Nat):Int))) (fun st i=>st=supS f i) (fun st i q hx hi inv=> ?_) (fun st inv=> ?_) _ rfl
 ·subst inv
  have hw:wrapK .i64 ((i:Int)+1)=((i+1:Nat):Int):=by rw[i64w (by omega) (by omega)];omega
  have hs:=sup_size f i
  have h1:=putB_size q.1 1
  have h2:=putB_size q.2 1
  simp only[spec_l18Super_l1,Int.ofNat_lt,hi,decide_true,cond_true,Int.natCast_nonneg,if_true,Int.toNat_natCast,hx,Option.bind_some,hw]
  refine EvX.bind (spec_PutNumber_ev q.1 1 (by omega) (by omega)) (EvX.ifp (by omega) (EvX.bind (spec_PutNumber_ev q.2 1 (by omega) (by omega)) (EvX.ifp (by rw[app_size];omega) ?_)))
  refine EvX.const _ (GL.self _ rfl ?_)
  simp only[supS,hx]
 ·subst inv
  have hs:=sup_size f (fQ f).length
  simp only[spec_l18Super_l1,Int.lt_irrefl,decide_false,cond_false]
  refine EvX.bind (spec_PadTo_ev _ 32 (by omega) (by omega)) ?_
  exact EvX.const _ (GE.ret (GR.ret rfl))
theorem impl_super_ev(f:PFS)(hl:(fQ f).length≤1048576):Ev (fun k=>c_impl_FS_super k (some f)) (superB f):=by
 refine EvQ.run (fun k=>impl_FS_super_run k _) ?_
 simp only[impl_FS_super,Option.bind_some]
 refine EvQ.bind (impl_PutNumber_ev f.1 4 (by omega) (by omega)) ?_
 have h4:=putB_size f.1 4
 have e:(⟨#[70,83,89,83]⟩:ByteArray).size=4:=rfl
 refine EvQ.ifp (by rw[e];omega) ?_
 refine Ev.eq ?_
 refine EvX.list (L:=fun k _=>impl_FS_super_l1 k) (fQ f) (fun(st:ByteArray) i=>(st,fQ f,((fQ f).length:Int),((i:Nat):Int))) (fun st i=>st=supS f i) (fun st i q hx hi inv=> ?_) (fun st inv=> ?_) _ rfl
 ·subst inv
  have hw:wrapK .i64 ((i:Int)+1)=((i+1:Nat):Int):=by rw[i64w (by omega) (by omega)];omega
  have hs:=sup_size f i
  have h1:=putB_size q.1 1
  have h2:=putB_size q.2 1
  simp only[impl_FS_super_l1,Int.ofNat_lt,hi,decide_true,cond_true,Int.natCast_nonneg,if_true,Int.toNat_natCast,hx,Option.bind_some,hw]
  refine EvX.bind (impl_PutNumber_ev q.1 1 (by omega) (by omega)) (EvX.bind (impl_PutNumber_ev q.2 1 (by omega) (by omega)) (EvX.ifp (by omega) (EvX.ifp (by rw[app_size];omega) ?_)))
  refine EvX.const _ (GL.self _ rfl ?_)
  simp only[supS,hx,app_assoc]
 ·subst inv
  have hs:=sup_size f (fQ f).length
  simp only[impl_FS_super_l1,Int.lt_irrefl,decide_false,cond_false]
  refine EvX.bind (impl_PadTo_ev _ 32 (by omega) (by omega)) ?_
  exact EvX.const _ (GE.ret (GR.ret rfl))
end Go.Proofs.YtmmgfgfkkpeedaaGreat
