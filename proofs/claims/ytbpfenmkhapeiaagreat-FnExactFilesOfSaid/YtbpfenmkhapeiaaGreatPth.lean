/- The tables, the residual functions and lemmas of this seat: parts of the proof of the law; conditions: those that each names. -/
import Derived.Test.YtbpfenmkhapeiaaGreatPar
import Derived.Test.YtbpfenmkhapeiaaGreatJon
set_option linter.unusedVariables false
set_option linter.unusedSimpArgs false
set_option maxRecDepth 100000
namespace Go.Proofs.YtbpfenmkhapeiaaGreat
open Go.Eng
noncomputable def pathN(f:PFS):Nat→Int→List ByteArray→Option (List ByteArray)
 |0,i,acc=>if i=0 then some acc else none
 |n+1,i,acc=>if i=0 then some acc else if(parR f i).2.2=true then pathN f n (parR f i).1 ([(parR f i).2.1]++acc)else none
theorem par_size{f:PFS}{i:Int}:(parR f i).2.1.size≤12:=by
 unfold parR
 cases h:parD f i 20 with
 |none=>show 0≤12;omega
 |some x=>exact parD_size h
theorem path_ok{f:PFS}:∀(n:Nat) (i:Int) (acc l:List ByteArray),acc.length+n≤8→(∀x∈acc,x.size≤1000)→pathN f n i acc=some l→l.length≤8∧∀x∈l,x.size≤1000
 |0,i,acc,l,h1,h2,h=>by
  rw[pathN]at h
  split at h
  ·injection h with h;subst h;exact⟨by omega,h2⟩
  ·cases h
 |n+1,i,acc,l,h1,h2,h=>by
  rw[pathN]at h
  split at h
  ·injection h with h;subst h;exact⟨by omega,h2⟩
  ·split at h
   ·refine path_ok n _ _ l (by simp;omega) (fun x hx=> ?_) h
    simp only[List.singleton_append,List.mem_cons]at hx
    rcases hx with rfl|hx
    ·exact Nat.le_trans par_size (by omega)
    ·exact h2 x hx
   ·cases h
def pathO:Option (List ByteArray)→List ByteArray×Bool
 |some l=>(l,true)
 |none=>([],false)
noncomputable def pathQ:Option (List ByteArray)→ByteArray×Bool
 |some l=>(pathB l,true)
 |none=>(⟨#[]⟩,false)
theorem impl_path_loop{f:PFS}(hP:fsP f):∀(n:Nat) (i:Int) (acc:List ByteArray),acc.length+n=8→EvL impl_FS_path_l1 (some f,i,acc) (pathO (pathN f n i acc)):=by
 intro n
 induction n with
 |zero=>
  intro i acc hl
  by_cases hi:i=0
  ·subst hi
   rw[pathN,if_pos rfl]
   refine EvL.stop ?_
   simp only[impl_FS_path_l1,show((0:Int) != 0)=false from rfl,cond_false]
   exact EvQ.const _
  ·have hb:(i != 0)=true:=bne_iff_ne.2 hi
   rw[pathN,if_neg hi]
   refine EvL.stop ?_
   simp only[impl_FS_path_l1,hb,cond_true]
   refine EvQ.bindS (impl_parent_ev hP i) ?_
   have h8:((acc.length:Int)==8)=true:=beq_iff_eq.2 (by omega)
   simp only[h8,cond_true]
   cases(parR f i).2.2<;>exact EvQ.const _
 |succ n ih=>
  intro i acc hl
  by_cases hi:i=0
  ·subst hi
   rw[pathN,if_pos rfl]
   refine EvL.stop ?_
   simp only[impl_FS_path_l1,show((0:Int) != 0)=false from rfl,cond_false]
   exact EvQ.const _
  ·have hb:(i != 0)=true:=bne_iff_ne.2 hi
   rw[pathN,if_neg hi]
   have h8:((acc.length:Int)==8)=false:=beq_eq_false_iff_ne.2 (by omega)
   by_cases ho:(parR f i).2.2=true
   ·rw[if_pos ho]
    refine EvL.step ?_ (ih _ _ (by simp;omega))
    simp only[EvS,impl_FS_path_l1,hb,cond_true]
    refine EvQ.bindS (impl_parent_ev hP i) ?_
    have hc:(([(parR f i).2.1]:List ByteArray).length+acc.length)*16≤capBytes:=by simp only[List.length_cons,List.length_nil,capBytes];omega
    simp only[ho,h8,Bool.not_true,cond_false,if_pos hc]
    exact EvQ.const _
   ·rw[if_neg ho]
    refine EvL.stop ?_
    simp only[impl_FS_path_l1,hb,cond_true]
    refine EvQ.bindS (impl_parent_ev hP i) ?_
    simp only[Bool.not_eq_true]at ho
    simp only[ho,Bool.not_false,cond_true]
    exact EvQ.const _
theorem spec_path_loop{f:PFS}(hP:fsP f):∀(n:Nat) (i:Int) (acc:List ByteArray),acc.length+n=8→(∀x∈acc,x.size≤1000)→EvL spec_PathOf_l1 (i,(),acc,f) (pathQ (pathN f n i acc)):=by
 intro n
 induction n with
 |zero=>
  intro i acc hl hs
  by_cases hi:i=0
  ·subst hi
   rw[pathN,if_pos rfl]
   refine EvL.stop ?_
   simp only[spec_PathOf_l1,show((0:Int) != 0)=false from rfl,cond_false]
   exact EvQ.bindS (spec_JoinPath_ev acc (by omega) hs) (EvQ.const _)
  ·have hb:(i != 0)=true:=bne_iff_ne.2 hi
   rw[pathN,if_neg hi]
   refine EvL.stop ?_
   simp only[spec_PathOf_l1,hb,cond_true]
   refine EvQ.bindS (spec_Parent_ev hP i) ?_
   have h8:((acc.length:Int)==8)=true:=beq_iff_eq.2 (by omega)
   simp only[h8,cond_true]
   cases(parR f i).2.2<;>exact EvQ.const _
 |succ n ih=>
  intro i acc hl hs
  by_cases hi:i=0
  ·subst hi
   rw[pathN,if_pos rfl]
   refine EvL.stop ?_
   simp only[spec_PathOf_l1,show((0:Int) != 0)=false from rfl,cond_false]
   exact EvQ.bindS (spec_JoinPath_ev acc (by omega) hs) (EvQ.const _)
  ·have hb:(i != 0)=true:=bne_iff_ne.2 hi
   rw[pathN,if_neg hi]
   have h8:((acc.length:Int)==8)=false:=beq_eq_false_iff_ne.2 (by omega)
   by_cases ho:(parR f i).2.2=true
   ·rw[if_pos ho]
    refine EvL.step ?_ (ih _ _ (by simp;omega) (fun x hx=> ?_))
    ·simp only[EvS,spec_PathOf_l1,hb,cond_true]
     refine EvQ.bindS (spec_Parent_ev hP i) ?_
     have hc:(([(parR f i).2.1]:List ByteArray).length+acc.length)*16≤capBytes:=by simp only[List.length_cons,List.length_nil,capBytes];omega
     simp only[ho,h8,Bool.not_true,cond_false,if_pos hc]
     exact EvQ.const _
    ·simp only[List.singleton_append,List.mem_cons]at hx
     rcases hx with rfl|hx
     ·exact Nat.le_trans par_size (by omega)
     ·exact hs x hx
   ·rw[if_neg ho]
    refine EvL.stop ?_
    simp only[spec_PathOf_l1,hb,cond_true]
    refine EvQ.bindS (spec_Parent_ev hP i) ?_
    simp only[Bool.not_eq_true]at ho
    simp only[ho,Bool.not_false,cond_true]
    exact EvQ.const _
theorem spec_PathOf_ev{f:PFS}(hP:fsP f)(h:Ev (fun k=>c_spec_IsFS k f) true)(i:Int):Ev (fun k=>c_spec_PathOf k (f,i)) (pathQ (pathN f 8 i [])):=by
 refine EvQ.run (fun k=>spec_PathOf_run k _ _) ?_
 simp only[spec_PathOf]
 refine EvQ.bind h ?_
 simp only[Bool.not_true,cond_false]
 exact(spec_path_loop hP 8 i [] rfl (fun _ hx=>(by cases hx))).ev
theorem impl_PathOf_ev{f:PFS}(hP:fsP f)(h:Ev (fun k=>c_impl_IsFS k f) true)(i:Int):Ev (fun k=>c_impl_PathOf k (f,i)) (pathQ (pathN f 8 i [])):=by
 refine EvQ.run (fun k=>impl_PathOf_run k _ _) ?_
 simp only[impl_PathOf]
 refine EvQ.bind h ?_
 simp only[Bool.not_true,cond_false]
 have hp:Ev (fun k=>c_impl_FS_path k (some f,i)) (pathO (pathN f 8 i [])):=EvQ.run (fun k=>impl_FS_path_run k _ _) (impl_path_loop hP 8 i [] rfl).ev
 refine EvQ.bind hp ?_
 cases hl:pathN f 8 i []with
 |none=>
  simp only[pathO,pathQ,Bool.not_false,cond_true]
  exact EvQ.const _
 |some l=>
  obtain⟨q1,q2⟩:=path_ok 8 i [] l (by simp) (fun _ hx=>(by cases hx)) hl
  simp only[pathO,pathQ,Bool.not_true,cond_false]
  exact EvQ.bind (impl_JoinPath_ev l (by omega) q2) (EvQ.const _)
end Go.Proofs.YtbpfenmkhapeiaaGreat
