/- The tables, the residual functions and lemmas of this seat: parts of the proof of the law; conditions: those that each names. -/
import Derived.Test.YtmmgfgfkkpeedaaGreatSup
set_option linter.unusedVariables false
set_option linter.unusedSimpArgs false
set_option maxRecDepth 100000
namespace Go.Proofs.YtmmgfgfkkpeedaaGreat
open Go.Eng
theorem K7(f:jB)(hl:(fQ f).length≤1048576):Ev (fun k=>o3 k f) (lj f):=by
 refine au.run (fun k=>Df k _) ?_
 simp only[Bh]
 refine au.bind (aP f.1 4 (by omega) (by omega)) ?_
 have h4:=aB f.1 4
 have e:(⟨#[70,83,89,83]⟩:ByteArray).size=4:=rfl
 refine au.nA (by rw[e];omega) ?_
 refine Ev.eq ?_
 refine aj.list (L:=fun k _=>kb k) (fQ f) (fun(st:ByteArray) i=>(st,fQ f,((fQ f).length:Int),((i:Nat):Int))) (fun st i=>st=Lb f i) (fun st i q hx hi inv=> ?_) (fun st inv=> ?_) _ rfl
 ·subst inv
  have hw:aa .i64 ((i:Int)+1)=((i+1:Nat):Int):=by rw[aR (by omega) (by omega)];omega
  have hs:=qe f i
  have h1:=aB q.1 1
  have h2:=aB q.2 1
  simp only[kb,Int.ofNat_lt,hi,decide_true,cond_true,Int.natCast_nonneg,if_true,Int.toNat_natCast,hx,Option.bind_some,hw]
  refine aj.bind (aP q.1 1 (by omega) (by omega)) (aj.nA (by omega) (aj.bind (aP q.2 1 (by omega) (by omega)) (aj.nA (by rw[aM];omega) ?_)))
  refine aj.const _ (GL.self _ rfl ?_)
  simp only[Lb,hx]
 ·subst inv
  have hs:=qe f (fQ f).length
  simp only[kb,Int.lt_irrefl,decide_false,cond_false]
  refine aj.bind (ir _ 32 (by omega) (by omega)) ?_
  exact aj.const _ (GE.ret (GR.ret rfl))
theorem K9(f:jB)(hl:(fQ f).length≤1048576):Ev (fun k=>oT k (some f)) (lj f):=by
 refine au.run (fun k=>EO k _) ?_
 simp only[AW,Option.bind_some]
 refine au.bind (aQ f.1 4 (by omega) (by omega)) ?_
 have h4:=aB f.1 4
 have e:(⟨#[70,83,89,83]⟩:ByteArray).size=4:=rfl
 refine au.nA (by rw[e];omega) ?_
 refine Ev.eq ?_
 refine aj.list (L:=fun k _=>jH k) (fQ f) (fun(st:ByteArray) i=>(st,fQ f,((fQ f).length:Int),((i:Nat):Int))) (fun st i=>st=Lb f i) (fun st i q hx hi inv=> ?_) (fun st inv=> ?_) _ rfl
 ·subst inv
  have hw:aa .i64 ((i:Int)+1)=((i+1:Nat):Int):=by rw[aR (by omega) (by omega)];omega
  have hs:=qe f i
  have h1:=aB q.1 1
  have h2:=aB q.2 1
  simp only[jH,Int.ofNat_lt,hi,decide_true,cond_true,Int.natCast_nonneg,if_true,Int.toNat_natCast,hx,Option.bind_some,hw]
  refine aj.bind (aQ q.1 1 (by omega) (by omega)) (aj.bind (aQ q.2 1 (by omega) (by omega)) (aj.nA (by omega) (aj.nA (by rw[aM];omega) ?_)))
  refine aj.const _ (GL.self _ rfl ?_)
  simp only[Lb,hx,Gu]
 ·subst inv
  have hs:=qe f (fQ f).length
  simp only[jH,Int.lt_irrefl,decide_false,cond_false]
  refine aj.bind (ky _ 32 (by omega) (by omega)) ?_
  exact aj.const _ (GE.ret (GR.ret rfl))
end Go.Proofs.YtmmgfgfkkpeedaaGreat
