/- The tables, the residual functions and lemmas of this seat: parts of the proof of the law; conditions: those that each names. -/
import Derived.Test.YtmmgfgfkkpeedaaGreatSup
set_option linter.unusedVariables false
set_option linter.unusedSimpArgs false
set_option maxRecDepth 100000
namespace Go.Proofs.YtmmgfgfkkpeedaaGreat
open Go.Eng
abbrev PWrite:=Int×ByteArray
abbrev PDisk:=List ByteArray×List PWrite
theorem wsucc{i:Nat}(h:i<4611686018427387904):wrapK .i64 ((i:Int)+1)=((i+1:Nat):Int):=by rw[i64w (by omega) (by omega)];omega
structure diskP (d:PDisk):Prop where
 sz:∀(i:Nat) s,d.1[i]? =some s→s.size=32
 pd:∀(i:Nat) w,d.2[i]? =some w→0≤w.1∧w.1<(d.1.length:Int)∧w.2.size=32
 n1:d.1.length≤400
 n2:d.2.length≤400
def dskS(d:PDisk):Prop:=d.1.length≤2000000∧d.2.length≤2000000
theorem spec_IsDisk_say(d:PDisk)(hs:dskS d):Say (fun k=>c_spec_IsDisk k d) (diskP d):=by
 obtain⟨s1,s2⟩:=hs
 refine Say.run (fun k=>spec_IsDisk_run k d) (Say.of ?_)
 simp only[spec_IsDisk]
 refine EvX.list (L:=fun k _=>spec_IsDisk_l2 k) d.1 (fun(_:Unit) i=>((),d.1,(d.1.length:Int),(i:Int),d)) (fun _ i=>∀(j:Nat) s,j<i→d.1[j]? =some s→s.size=32) (fun _ i s hx hi inv=> ?_) (fun _ inv=> ?_) () (by simp)
 ·simp only[spec_IsDisk_l2,Int.ofNat_lt,hi,decide_true,cond_true,Int.natCast_nonneg,if_true,Int.toNat_natCast,hx,Option.bind_some,wsucc (show i<_ by omega)]
  refine EvX.bif (fun h=>EvX.const _ (GL.ret (GP.no fun hP=>by have:=hP.sz i s hx;simp at h;omega))) (fun h=> ?_)
  have h:s.size=32:=by simp at h;omega
  refine EvX.const _ (GL.self () rfl fun j s' hj hs'=> ?_)
  by_cases e:j=i
  ·subst e;rw[hx]at hs';cases hs';exact h
  ·exact inv j s' (by omega) hs'
 ·simp only[spec_IsDisk_l2,Int.lt_irrefl,decide_false,cond_false]
  refine EvX.out (F:=fun k _=>iter k (spec_IsDisk_l1 k) ((),d.2,(d.2.length:Int),(0:Int),d)) ?_
  refine EvX.list (L:=fun k _=>spec_IsDisk_l1 k) d.2 (fun(_:Unit) i=>((),d.2,(d.2.length:Int),(i:Int),d)) (fun _ i=>∀(j:Nat) w,j<i→d.2[j]? =some w→0≤w.1∧w.1<(d.1.length:Int)∧w.2.size=32) (fun _ i w hx hi inv2=> ?_) (fun _ inv2=> ?_) () (by simp)
  ·have w1:wrapK .i64 ((d.1.length:Int)-1)=(d.1.length:Int)-1:=i64w (by omega) (by omega)
   simp only[spec_IsDisk_l1,Int.ofNat_lt,hi,decide_true,cond_true,Int.natCast_nonneg,if_true,Int.toNat_natCast,hx,Option.bind_some,wsucc (show i<_ by omega),w1]
   refine EvX.bind (l01In_ev _ _ _) (EvX.bif (fun h=>EvX.const _ (GL.ret (GP.no fun hP=>by have:=hP.pd i w hx;simp at h;omega))) (fun h1=> ?_))
   refine EvX.bif (fun h=>EvX.const _ (GL.ret (GP.no fun hP=>by have:=hP.pd i w hx;simp at h;omega))) (fun h2=> ?_)
   simp at h1 h2
   refine EvX.const _ (GL.self () rfl fun j s' hj hs'=> ?_)
   by_cases e:j=i
   ·subst e;rw[hx]at hs';cases hs';exact⟨h1.1,by omega,by omega⟩
   ·exact inv2 j s' (by omega) hs'
  ·have all:d.1.length≤400→d.2.length≤400→diskP d:=fun a b=>⟨fun i s h=>inv i s (List.getElem?_eq_some_iff.1 h).1 h,fun i w h=>inv2 i w (List.getElem?_eq_some_iff.1 h).1 h,a,b⟩
   simp only[spec_IsDisk_l1,Int.lt_irrefl,decide_false,cond_false]
   refine EvX.bif (fun h=> ?_) (fun h=>EvX.const _ (GE.ret (GP.no fun hP=>by have:=hP.n1;simp at h;omega)))
   simp at h
   refine EvX.const _ (GE.ret (GP.ret ?_))
   rw[decide_eq_true_eq]
   exact⟨fun h2=>all (by omega) (by omega),fun hP=>by have:=hP.n2;omega⟩
theorem impl_IsDisk_say(d:PDisk)(hs:dskS d):Say (fun k=>c_impl_IsDisk k d) (diskP d):=by
 obtain⟨s1,s2⟩:=hs
 refine Say.run (fun k=>impl_IsDisk_run k d) (Say.of ?_)
 simp only[impl_IsDisk]
 refine EvX.bif (fun h=>EvX.const _ (GP.no fun hP=>by have:=hP.n1;simp at h;omega)) (fun h1=> ?_)
 refine EvX.bif (fun h=>EvX.const _ (GP.no fun hP=>by have:=hP.n2;simp at h;omega)) (fun h2=> ?_)
 have h1:d.1.length≤400:=by simp at h1;omega
 have h2:d.2.length≤400:=by simp at h2;omega
 refine EvX.list (L:=fun k _=>impl_IsDisk_l2 k) d.1 (fun(_:Unit) i=>((),d.1,(d.1.length:Int),(i:Int),d)) (fun _ i=>∀(j:Nat) s,j<i→d.1[j]? =some s→s.size=32) (fun _ i s hx hi inv=> ?_) (fun _ inv=> ?_) () (by simp)
 ·simp only[impl_IsDisk_l2,Int.ofNat_lt,hi,decide_true,cond_true,Int.natCast_nonneg,if_true,Int.toNat_natCast,hx,Option.bind_some,wsucc (show i<_ by omega)]
  refine EvX.bif (fun h=>EvX.const _ (GL.ret (GP.no fun hP=>by have:=hP.sz i s hx;simp at h;omega))) (fun h=> ?_)
  have h:s.size=32:=by simp at h;omega
  refine EvX.const _ (GL.self () rfl fun j s' hj hs'=> ?_)
  by_cases e:j=i
  ·subst e;rw[hx]at hs';cases hs';exact h
  ·exact inv j s' (by omega) hs'
 ·simp only[impl_IsDisk_l2,Int.lt_irrefl,decide_false,cond_false]
  refine EvX.out (F:=fun k _=>iter k (impl_IsDisk_l1 k) ((),d.2,(d.2.length:Int),(0:Int),d)) ?_
  refine EvX.list (L:=fun k _=>impl_IsDisk_l1 k) d.2 (fun(_:Unit) i=>((),d.2,(d.2.length:Int),(i:Int),d)) (fun _ i=>∀(j:Nat) w,j<i→d.2[j]? =some w→0≤w.1∧w.1<(d.1.length:Int)∧w.2.size=32) (fun _ i w hx hi inv2=> ?_) (fun _ inv2=> ?_) () (by simp)
  ·simp only[impl_IsDisk_l1,Int.ofNat_lt,hi,decide_true,cond_true,Int.natCast_nonneg,if_true,Int.toNat_natCast,hx,Option.bind_some,wsucc (show i<_ by omega)]
   refine EvX.bif (fun h=>EvX.const _ (GL.ret (GP.no fun hP=>by have:=hP.pd i w hx;simp at h;omega))) (fun h1=> ?_)
   refine EvX.bif (fun h=>EvX.const _ (GL.ret (GP.no fun hP=>by have:=hP.pd i w hx;simp at h;omega))) (fun h2=> ?_)
   refine EvX.bif (fun h=>EvX.const _ (GL.ret (GP.no fun hP=>by have:=hP.pd i w hx;simp at h;omega))) (fun h3=> ?_)
   simp at h1 h2 h3
   refine EvX.const _ (GL.self () rfl fun j s' hj hs'=> ?_)
   by_cases e:j=i
   ·subst e;rw[hx]at hs';cases hs';exact⟨h1,by omega,by omega⟩
   ·exact inv2 j s' (by omega) hs'
  ·simp only[impl_IsDisk_l1,Int.lt_irrefl,decide_false,cond_false]
   exact EvX.const _ (GE.ret (GP.yes ⟨fun i s h=>inv i s (List.getElem?_eq_some_iff.1 h).1 h,fun i w h=>inv2 i w (List.getElem?_eq_some_iff.1 h).1 h,h1,h2⟩))
def storT(f:Nat→Bool)(d:PDisk):Nat→List ByteArray
 |0=>d.1
 |i+1=>match d.2[i]? with
  |some w=>bif f i then(storT f d i).set w.1.toNat w.2 else storT f d i
  |none=>storT f d i
theorem storT_len(f:Nat→Bool)(d:PDisk):∀i,(storT f d i).length=d.1.length
 |0=>rfl
 |i+1=>by
  have h:=storT_len f d i
  simp only[storT]
  cases d.2[i]? with
  |none=>exact h
  |some w=>cases f i<;>simp[h]
theorem storT_sz{f:Nat→Bool}{d:PDisk}(h:diskP d):∀i (j:Nat) s,(storT f d i)[j]? =some s→s.size=32
 |0,j,s,hs=>h.sz j s hs
 |i+1,j,s,hs=>by
  simp only[storT]at hs
  cases hw:d.2[i]? with
  |none=>rw[hw]at hs;exact storT_sz h i j s hs
  |some w=>
   rw[hw]at hs
   simp only at hs
   cases hf:f i with
   |false=>rw[hf]at hs;exact storT_sz h i j s hs
   |true=>
    rw[hf]at hs
    simp only[cond_true,List.getElem?_set]at hs
    split at hs
    ·split at hs
     ·cases hs;exact(h.pd i w hw).2.2
     ·cases hs
    ·exact storT_sz h i j s hs
theorem disk_small{d:PDisk}(h:diskP d):dskS d:=by
 have n1:=h.n1
 have n2:=h.n2
 exact⟨by omega,by omega⟩
end Go.Proofs.YtmmgfgfkkpeedaaGreat
