/- The tables, the residual functions and lemmas of this seat: parts of the proof of the law; conditions: those that each names. -/
import Derived.Test.YtmmgfgfkkpeedaaGreatDoorAcl
set_option linter.unusedVariables false
set_option linter.unusedSimpArgs false
set_option maxRecDepth 100000
namespace Go.Proofs.YtmmgfgfkkpeedaaGreatDoor
open Go.Eng
theorem ite_ev{c:Bool}{f:Nat→Option Bool}{p:Prop}[Decidable p](h1:c=true→Ev f (decide p))(h2:c=false→¬p):Ev (fun k=>bif c then f k else some false) (decide p):=by
 cases c with
 |true=>exact h1 rfl
 |false=>simp only[cond_false,decide_eq_false (h2 rfl)];exact EvQ.const _
theorem l05Entry_say(e:PAcl):Say (fun k=>c_spec_l05Entry k e) (entP e):=by
 refine Say.run (fun k=>spec_l05Entry_run k e) (Say.of ?_)
 simp only[spec_l05Entry]
 have key:∀t,e.1=t→t=1∨t=2∨t=3∨(t≠1∧t≠2∧t≠3):=fun t _=>by omega
 refine EvX.bind (l01In_ev _ _ _) (EvX.bif (fun h=> ?_) (fun h=> ?_))
 ·refine EvX.const _ (GP.no fun hP=> ?_)
  unfold entP at hP
  simp at h;omega
 simp at h
 by_cases t1:e.1=1
 ·simp only[t1,beq_self_eq_true,cond_true]
  refine EvX.bind (l01In_ev _ _ _) (EvX.const _ (GP.ret ?_))
  unfold entP;simp;omega
 by_cases t2:e.1=2
 ·simp only[t2,beq_self_eq_true,cond_true,show((2:Int)==1)=false from rfl,cond_false]
  refine EvX.bind (l01In_ev _ _ _) (EvX.const _ (GP.ret ?_))
  unfold entP;simp;omega
 by_cases t3:e.1=3
 ·simp only[t3,beq_self_eq_true,cond_true,show((3:Int)==1)=false from rfl,show((3:Int)==2)=false from rfl,cond_false]
  refine EvX.const _ (GP.ret ?_)
  unfold entP;simp;omega
 have b1:(e.1==1)=false:=by simpa using t1
 have b2:(e.1==2)=false:=by simpa using t2
 have b3:(e.1==3)=false:=by simpa using t3
 simp only[b1,b2,b3,cond_false]
 refine EvX.const _ (GP.no fun hP=> ?_)
 unfold entP at hP;omega
theorem spec_IsAcl_say(l:List PAcl)(hl:l.length<big):Say (fun k=>c_spec_IsAcl k l) (aclP l):=by
 unfold big at hl
 refine Say.run (fun k=>spec_IsAcl_run k l) (Say.of ?_)
 simp only[spec_IsAcl]
 refine EvX.list (L:=fun k _=>spec_IsAcl_l1 k) l (fun(_:Unit) i=>(l,l,(l.length:Int),(i:Int))) (fun _ i=>∀j e,j<i→l[j]? =some e→entP e∧ordP l j e) (fun _ i e hx hi inv=> ?_) (fun _ inv=> ?_) () (by simp)
 ·simp only[spec_IsAcl_l1,Int.ofNat_lt,hi,decide_true,cond_true,Int.natCast_nonneg,if_true,Int.toNat_natCast,hx,Option.bind_some]
  have hw:wrapK .i64 ((i:Int)+1)=((i+1:Nat):Int):=by rw[i64w (by omega) (by omega)];omega
  rw[hw]
  refine EvX.say (l05Entry_say e) fun b hb=> ?_
  refine EvX.bif (fun h1=> ?_) (fun h1=> ?_)
  ·refine EvX.const _ (GL.ret (GP.no fun hP=> ?_))
   have:=hb.2 (hP.2.1 i e hx).1
   simp[this]at h1
  have he:entP e:=hb.1 (by simpa using h1)
  have next:ordP l i e→∀j e,j<i+1→l[j]? =some e→entP e∧ordP l j e:=fun ho j e' hj hje=>by
   by_cases hji:j=i
   ·subst hji;rw[hx]at hje;cases hje;exact⟨he,ho⟩
   ·exact inv j e' (by omega) hje
  refine EvX.bif (fun h3=> ?_) (fun h3=> ?_)
  ·simp at h3
   have hw2:wrapK .i64 ((i:Int)-1)=((i-1:Nat):Int):=by rw[i64w (by omega) (by omega)];omega
   have hp:l[i-1]? =some l[i-1]:=List.getElem?_eq_getElem (by omega)
   simp only[hw2,Int.natCast_nonneg,if_true,Int.toNat_natCast,hp,Option.bind_some]
   have no:¬lessP l[i-1] e→GL (S:=Unit) (fun(_:Unit) i=>(l,l,(l.length:Int),((i:Nat):Int))) (fun _ i=>∀j e,j<i→l[j]? =some e→entP e∧ordP l j e) i (GP (aclP l)) fun _=>some false:=fun h=>
    GL.ret (GP.no fun hP=>h ((hP.2.1 i e hx).2 _ h3 hp))
   have yes:lessP l[i-1] e→ordP l i e:=fun h p _ hp'=>by rw[hp]at hp';cases hp';exact h
   refine EvX.bif (fun h4=> ?_) (fun h4=> ?_)
   ·refine EvX.const _ (no ?_)
    simp at h4;unfold lessP;omega
   refine EvX.bif (fun h5=> ?_) (fun h5=> ?_)
   ·refine EvX.bif (fun h6=> ?_) (fun h6=> ?_)
    ·refine EvX.const _ (no ?_)
     simp at h4 h5 h6;unfold lessP;omega
    ·refine EvX.const _ (GL.self () rfl (next (yes ?_)))
     simp at h4 h5 h6;unfold lessP;omega
   ·refine EvX.const _ (GL.self () rfl (next (yes ?_)))
    simp at h4 h5;unfold lessP;omega
  ·simp at h3
   exact EvX.const _ (GL.self () rfl (next fun p h0 _=>by omega))
 ·simp only[spec_IsAcl_l1,Int.lt_irrefl,decide_false,cond_false]
  refine EvX.bif (fun h3=> ?_) (fun h3=> ?_)
  ·simp at h3
   subst h3
   exact EvX.const _ (GE.ret (GP.yes ⟨by simp,by simp,.inl rfl⟩))
  ·simp at h3
   have hlen:0<l.length:=List.length_pos_iff.2 h3
   have hw2:wrapK .i64 ((l.length:Int)-1)=((l.length-1:Nat):Int):=by rw[i64w (by omega) (by omega)];omega
   have hp:l[l.length-1]? =some l[l.length-1]:=List.getElem?_eq_getElem (by omega)
   refine EvX.bif (fun h4=> ?_) (fun h4=> ?_)
   ·simp at h4
    simp only[hw2,Int.natCast_nonneg,if_true,Int.toNat_natCast,hp,Option.bind_some]
    refine EvX.const _ (GE.ret (GP.ret ?_))
    simp only[beq_iff_eq]
    constructor
    ·intro h4
     exact⟨by omega,fun i e hie=>inv i e (List.getElem?_eq_some_iff.1 hie).1 hie,.inr ⟨_,hp,h4⟩⟩
    ·intro hP
     rcases hP.2.2 with h4|⟨e,h4,h5⟩
     ·exact absurd h4 h3
     ·rw[hp]at h4;cases h4;exact h5
   ·simp at h4
    exact EvX.const _ (GE.ret (GP.no fun hP=>by have:=hP.1;omega))
end Go.Proofs.YtmmgfgfkkpeedaaGreatDoor
