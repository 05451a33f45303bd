/- The tables, the residual functions and lemmas of this seat: parts of the proof of the law; conditions: those that each names. -/
import Derived.Test.YtmmgfgfkkpeedaaGreatDk0
set_option linter.unusedVariables false
set_option linter.unusedSimpArgs false
set_option maxRecDepth 100000
namespace Go.Proofs.YtmmgfgfkkpeedaaGreat
open Go.Eng
theorem ik(d:cO)(hs:It d):cA (fun k=>il k d) (mj d):=by
 obtain⟨s1,s2⟩:=hs
 refine cA.run (fun k=>Is k d) (cA.of ?_)
 simp only[Hf]
 refine aj.list (L:=fun k _=>lT k) d.1 (fun(_:Unit) i=>((),d.1,(d.1.length:Int),(i:Int),d)) (fun _ i=>∀(j:Nat) s,j<i→d.1[j]? =some s→s.size=32) (fun _ i s hx hi inv=> ?_) (fun _ inv=> ?_) () (by simp)
 ·simp only[lT,Int.ofNat_lt,hi,decide_true,cond_true,Int.natCast_nonneg,if_true,Int.toNat_natCast,hx,Option.bind_some,iM (show i<_ by omega)]
  refine aj.bif (fun h=>aj.const _ (GL.ret (GP.no fun hP=>by have:=hP.sz i s hx;simp at h;omega))) (fun h=> ?_)
  have h:s.size=32:=by simp at h;omega
  refine aj.const _ (GL.self () rfl fun j s' hj hs'=> ?_)
  by_cases e:j=i
  ·subst e;rw[hx]at hs';cases hs';exact h
  ·exact inv j s' (by omega) hs'
 ·simp only[lT,Int.lt_irrefl,decide_false,cond_false]
  refine aj.out (F:=fun k _=>iter k (jl k) ((),d.2,(d.2.length:Int),(0:Int),d)) ?_
  refine aj.list (L:=fun k _=>jl k) d.2 (fun(_:Unit) i=>((),d.2,(d.2.length:Int),(i:Int),d)) (fun _ i=>∀(j:Nat) w,j<i→d.2[j]? =some w→0≤w.1∧w.1<(d.1.length:Int)∧w.2.size=32) (fun _ i w hx hi inv2=> ?_) (fun _ inv2=> ?_) () (by simp)
  ·have w1:aa .i64 ((d.1.length:Int)-1)=(d.1.length:Int)-1:=aR (by omega) (by omega)
   simp only[jl,Int.ofNat_lt,hi,decide_true,cond_true,Int.natCast_nonneg,if_true,Int.toNat_natCast,hx,Option.bind_some,iM (show i<_ by omega),w1]
   refine aj.bind (bH _ _ _) (aj.bif (fun h=>aj.const _ (GL.ret (GP.no fun hP=>by have:=hP.pd i w hx;simp at h;omega))) (fun h1=> ?_))
   refine aj.bif (fun h=>aj.const _ (GL.ret (GP.no fun hP=>by have:=hP.pd i w hx;simp at h;omega))) (fun h2=> ?_)
   simp at h1 h2
   refine aj.const _ (GL.self () rfl fun j s' hj hs'=> ?_)
   by_cases e:j=i
   ·subst e;rw[hx]at hs';cases hs';exact⟨h1.1,by omega,by omega⟩
   ·exact inv2 j s' (by omega) hs'
  ·have all:d.1.length≤400→d.2.length≤400→mj d:=fun a b=>⟨fun i s h=>inv i s (List.getElem?_eq_some_iff.1 h).1 h,fun i w h=>inv2 i w (List.getElem?_eq_some_iff.1 h).1 h,a,b⟩
   simp only[jl,Int.lt_irrefl,decide_false,cond_false]
   refine aj.bif (fun h=> ?_) (fun h=>aj.const _ (GE.ret (GP.no fun hP=>by have:=hP.n1;simp at h;omega)))
   simp at h
   refine aj.const _ (GE.ret (GP.ret ?_))
   rw[decide_eq_true_eq]
   exact⟨fun h2=>all (by omega) (by omega),fun hP=>by have:=hP.n2;omega⟩
theorem ie(d:cO)(hs:It d):cA (fun k=>iu k d) (mj d):=by
 obtain⟨s1,s2⟩:=hs
 refine cA.run (fun k=>Iv k d) (cA.of ?_)
 simp only[HN]
 refine aj.bif (fun h=>aj.const _ (GP.no fun hP=>by have:=hP.n1;simp at h;omega)) (fun h1=> ?_)
 refine aj.bif (fun h=>aj.const _ (GP.no fun hP=>by have:=hP.n2;simp at h;omega)) (fun h2=> ?_)
 have h1:d.1.length≤400:=by simp at h1;omega
 have h2:d.2.length≤400:=by simp at h2;omega
 refine aj.list (L:=fun k _=>l7 k) d.1 (fun(_:Unit) i=>((),d.1,(d.1.length:Int),(i:Int),d)) (fun _ i=>∀(j:Nat) s,j<i→d.1[j]? =some s→s.size=32) (fun _ i s hx hi inv=> ?_) (fun _ inv=> ?_) () (by simp)
 ·simp only[l7,Int.ofNat_lt,hi,decide_true,cond_true,Int.natCast_nonneg,if_true,Int.toNat_natCast,hx,Option.bind_some,iM (show i<_ by omega)]
  refine aj.bif (fun h=>aj.const _ (GL.ret (GP.no fun hP=>by have:=hP.sz i s hx;simp at h;omega))) (fun h=> ?_)
  have h:s.size=32:=by simp at h;omega
  refine aj.const _ (GL.self () rfl fun j s' hj hs'=> ?_)
  by_cases e:j=i
  ·subst e;rw[hx]at hs';cases hs';exact h
  ·exact inv j s' (by omega) hs'
 ·simp only[l7,Int.lt_irrefl,decide_false,cond_false]
  refine aj.out (F:=fun k _=>iter k (jw k) ((),d.2,(d.2.length:Int),(0:Int),d)) ?_
  refine aj.list (L:=fun k _=>jw k) d.2 (fun(_:Unit) i=>((),d.2,(d.2.length:Int),(i:Int),d)) (fun _ i=>∀(j:Nat) w,j<i→d.2[j]? =some w→0≤w.1∧w.1<(d.1.length:Int)∧w.2.size=32) (fun _ i w hx hi inv2=> ?_) (fun _ inv2=> ?_) () (by simp)
  ·simp only[jw,Int.ofNat_lt,hi,decide_true,cond_true,Int.natCast_nonneg,if_true,Int.toNat_natCast,hx,Option.bind_some,iM (show i<_ by omega)]
   refine aj.bif (fun h=>aj.const _ (GL.ret (GP.no fun hP=>by have:=hP.pd i w hx;simp at h;omega))) (fun h1=> ?_)
   refine aj.bif (fun h=>aj.const _ (GL.ret (GP.no fun hP=>by have:=hP.pd i w hx;simp at h;omega))) (fun h2=> ?_)
   refine aj.bif (fun h=>aj.const _ (GL.ret (GP.no fun hP=>by have:=hP.pd i w hx;simp at h;omega))) (fun h3=> ?_)
   simp at h1 h2 h3
   refine aj.const _ (GL.self () rfl fun j s' hj hs'=> ?_)
   by_cases e:j=i
   ·subst e;rw[hx]at hs';cases hs';exact⟨h1,by omega,by omega⟩
   ·exact inv2 j s' (by omega) hs'
  ·simp only[jw,Int.lt_irrefl,decide_false,cond_false]
   exact aj.const _ (GE.ret (GP.yes ⟨fun i s h=>inv i s (List.getElem?_eq_some_iff.1 h).1 h,fun i w h=>inv2 i w (List.getElem?_eq_some_iff.1 h).1 h,h1,h2⟩))
end Go.Proofs.YtmmgfgfkkpeedaaGreat
